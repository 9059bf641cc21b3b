import Derived.Test.YtpbalojiaghfhaaPFnCompilesSmally0
import Derived.Test.YtpbalojiaghfhaaPFnCompilesSmally4
import Derived.Test.YtpbalojiaghfhaaPFnCompilesSmally5
namespace Go.Proofs.Ytpbalojiaghfhaa.PFnCompilesSmall
open Go.RowKit Go.Proofs.YtpbalojiaghfhaaW.PrintWords Go.Proofs.YtpbalojiaghfhaaW.PrintLast Go.Proofs.YtpbalojiaghfhaaW.PrintMore Go.Proofs.YtpbalojiaghfhaaW.Z
open Kd
attribute [local go_sem] isS max2_int min2_int max_two min_two max_three min_three max_four min_four
set_option linter.unusedVariables false
set_option linter.unusedSimpArgs false
theorem qh6x0 {P:Prop} (h:P:=by exact⟨(blk_cell b.out 0).trans rfl,(blk_cell b.out 1).trans rfl,(blk_cell b.out 2).trans rfl,(blk_cell b.out 3).trans rfl⟩):P:=h
mutual
def spec_l09Policy.j0:Nat→List Int→Int→Int→Int→Int→Int→Option (Int×Int×Int×(List (S81))×Int×Int)
  | 0,_,_,_,_,_,_=>none
  | k+1,aQ,bf,bg,a0,a1,a2=>spec_l09Policy.l0 k 0 aQ bf bg a0 a1 a2 ([] :List (S81))
def spec_l09Policy.l0:Nat→Int→List Int→Int→Int→Int→Int→Int→List (S81)→Option (Int×Int×Int×(List (S81))×Int×Int)
  | 0,_,_,_,_,_,_,_,_=>none
  | k+1,bT,aQ,bf,bg,a0,a1,a2,bh=>(spec_l01Below.f aQ bf bg 5).bind fun aR=>(if bT<aR.1 then((spec_l09Made.f k aQ aR.2.1 aR.2.2).bind fun aB=>(if bh.length<2199023255552 then(spec_l09Policy.l0 k (wrap64 (bT+1)) aQ aB.2.2.2.2.1 aB.2.2.2.2.2 a0 a1 a2 (bh ++ [(⟨aB.1,aB.2.1,aB.2.2.1,aB.2.2.2.1⟩ :S81)]))else(none)))else(some (a0,a1,a2,bh,aR.2.1,aR.2.2)))
end
def spec_l09Policy.f (k:Nat) (s0_0:List Int) (s0_1:Int) (s0_2:Int):Option (Int×Int×Int×(List (S81))×Int×Int):=(spec_l01PickInt.f s0_0 s0_1 s0_2 (([5,4,0,2] :List Int))).bind fun ap=>(if ap.1=2 then(spec_l09Policy.j0 k s0_0 ap.2.1 ap.2.2 62 ap.1 1)else(spec_l09Policy.j0 k s0_0 ap.2.1 ap.2.2 62 ap.1 0))
def spec_l09Policy.T7:Bool×List (List Nat×List Nat):=(true,[([],[]),([0],[0]),([],[]),([2],[2]),([3],[3]),([1,4,3],[1,4]),([0,1,2,3,4,5],[]),([6,5,5,0,1,2,3,4,5],[5,6])])
def spec_l09Policy.B7:List Nat:=[0,1,0,4,12,31,63,127]
theorem spec_l09Policy.tab7:rtab .any (opsOf Try.f49 7)=spec_l09Policy.T7:=by kernel_rfl
theorem spec_l09Policy.bits7:waitsOk spec_l09Policy.T7.2 spec_l09Policy.B7=true:=by kernel_rfl
theorem q6x0 {P:Prop} (h:P:=by repeat(first|(with_reducible first|exact HI0.out|apply IsS90.alloc|apply IsS90.drewN|apply IsS90.drew|apply IsS90.set_1|apply IsS90.set_2)|exact HI0.out)):P:=h
theorem q6x1 {P:Prop} (h:P:=by repeat(first|(with_reducible first|exact HB.out|apply below_alloc|apply pw_below_drewN|apply below_drew1|refine below_set ?_ (IsS90.ge HI0.out))|exact HB.out)):P:=h
theorem q6x2 {P:Prop} (h:P:=by repeat(first|(with_reducible first|exact HI0.out|apply IsS90.alloc|apply IsS90.drewN|apply IsS90.drew|apply IsS90.set_1|apply IsS90.set_2|(apply IsS90.far;case hne=>exact(Aside0.out (by assumption))))|exact HI0.out)):P:=h
theorem q6x3 {P:Prop} (h:P:=by repeat(first|(with_reducible first|exact HB.out|apply below_alloc|apply pw_below_drewN|apply below_drew1|refine below_set ?_ (IsS90.ge HI0.out)|refine below_set ?_ (Aside0.out (by assumption)))|exact HB.out)):P:=h
theorem q6x4 {P:Prop} (h:P:=by
 rintro w' ⟨s0,s1,s2,s3⟩
 go_simp
 with_reducible rfl):P:=h
set_option maxHeartbeats 8000000 in
set_option maxRecDepth 100000 in
theorem spec_l09Policy.calls (k:Nat) (g:Nat) (s0_0:List Int) (s0_1:Int) (s0_2:Int) (r1:Int) (r2:Int) (r3:Int) (r4:List (S81)) (r5:Int) (r6:Int) (m w:World) (hI:IsS90 m w g s0_0 s0_1 s0_2) (hB:Below m.heap.size m w) (h:spec_l09Policy.f k s0_0 s0_1 s0_2=some (r1,r2,r3,r4,r5,r6)) :
 Calls Try.prog 49 #[.pointer (some ⟨g,0,none⟩)] w fun e w'=> ∃ v3_:Value,e= .returned (.agg #[.int .i64 r1,.int .i64 r2,.int .i64 r3,v3_])∧Kd.S k81 81 w' w.heap.size (fun _=>True) v3_ r4∧IsS90 m w' g s0_0 r5 r6∧Below m.heap.size m w'∧KeepBut w w' g none:=by
 have hu41:=Try.underlying41;have HI0:=aM hI;have HK:=aM (KeepBut.refl w g none);have HL:=aM hB.size;clear hI;have HW0:=aM hB.size;have HB:=aM hB;clear hB
 unfold spec_l09Policy.f at h;have H:=h
 clear h;obtain⟨cA,bi⟩ : ∃ y_:List Int,Aside0 (y_=(([5,4,0,2] :List Int))):=⟨_,⟨rfl⟩⟩;rw[← bi.out]at H;replace H:=bE H;obtain⟨⟨ac,aC,aD⟩,I,H⟩:=H;(try dsimp only at H);have HC3:=aM H;clear H;go_enter Try.func49,Try.ntmps49
 go_upto_if 11 with(first|((with_reducible refine gN 2 ?_);refine boxZ 2 #[.int .i64 0,.int .i64 0,.int .i64 0,.slice none 0 0] 41 ?_;intro ad hg c0 hbox hb;replace HB:=aM (below_step q6x1 hb);have d:=aM hbox;have GW263:=gK (w:=w) hg;have GE263:=gW HW0 hg;replace HK:=aM (KeepBut.trans (cK:KeepBut w _ g none) (KeepBut.of_below hb g none) (.inl rfl));have cD:=aM ((by rw[hg];exact Nat.ne_of_lt (IsS90.lt (show IsS90 m _ g s0_0 s0_1 s0_2 from q6x0)):g≠ad));have aT:=aM ((by rw[hg];exact Nat.ne_of_gt (IsS90.lt (show IsS90 m _ g s0_0 s0_1 s0_2 from q6x0)):ad≠g));replace HI0:=aM (IsS90.below q6x0 hb);clear hb hbox hg)|((with_reducible refine gN 6 ?_);refine R_lit (Kd.int .i64) _ 3 ?hg (N:=6) ?hd (xs:=([5,4,0,2] :List Int)) (inner:=[.int .i64 5,.int .i64 4,.int .i64 0,.int .i64 2]) (ok:=fun _=>True) (okp:=fun _=>True) ?hr ?hp (fun _ hk=>hk) trivial (Below.refl _ _) (Nat.le_refl _) (by simp) ?_;(case hd=>rfl);(case hg=>rfl);(case hr=>exact rG);(case hp=>exact(Reps.one (show Kd.M (Kd.int .i64) _ _ _ 5 [.int .i64 5]from rfl) (Reps.one (show Kd.M (Kd.int .i64) _ _ _ 4 [.int .i64 4]from rfl) (Reps.one (show Kd.M (Kd.int .i64) _ _ _ 0 [.int .i64 0]from rfl) (Reps.one (show Kd.M (Kd.int .i64) _ _ _ 2 [.int .i64 2]from rfl) (Reps.none _ _))))));intro c1 bU aU hb hg_ hnew_;clear hg_ hnew_;(first|rw[← bi.out]at aU|(simp only[Int.reduceToNat]at aU;rw[← bi.out]at aU));have ah:=aM (R_lower aU (keep_size (w:=w) (g:=g) (row:=none) cK));replace d:=kB d hb;replace HK:=aM (KeepBut.trans (cK:KeepBut w _ g none) (KeepBut.of_below hb g none) (.inl rfl));replace HB:=aM (below_step q6x3 hb);replace HI0:=aM (IsS90.below q6x2 hb);clear hb aU;obtain⟨c3,c4,cE⟩:=R_slice ah.out;subst cE)|((with_reducible refine gF 72 ?_);refine gX (some 7) Try.func72 (spec_l01PickInt.calls g s0_0 s0_1 s0_2 _ _ cA ac aC aD m _ q6x2 q6x3 (rX ah) ((rY ah)) (far_slice (IsS90.own_ne HI0.out ah.out (by decide))) I.out) ?_;rintro cF ⟨hi,hb,hk⟩;replace d:=bK hk d aT.out;replace ah:=aM (R_mono (R_keep (IsS90.apart (show IsS90 m _ g s0_0 s0_1 s0_2 from q6x2) (mR ah) (by decide)) hk (fun _ h=>h.2)) (fun _ h=>h.1));replace HK:=tK (w:=w) hk;replace HB:=aM hb;replace HI0:=aM hi;(try clear hb);(try clear hk);(try clear hi))|((with_reducible refine gN 3 ?_);refine boxZ 3 #[.int .i64 0,.int .i64 0,.int .i64 0,.slice none 0 0] 41 ?_;intro ab hg ae hbox hb;replace ah:=rB ah hb;replace HB:=aM (below_step q6x3 hb);have b:=aM hbox;have GW270:=gK (w:=w) hg;have GE270:=gW HW0 hg;replace HK:=aM (KeepBut.trans (cK:KeepBut w _ g none) (KeepBut.of_below hb g none) (.inl rfl));have a3:=nL hg d;have a4:=nG hg d;replace d:=kB d hb;have bj:=aM ((by rw[hg];exact Nat.ne_of_lt (IsS90.lt (show IsS90 m _ g s0_0 aC aD from q6x2)):g≠ab));have aE:=aM ((by rw[hg];exact Nat.ne_of_gt (IsS90.lt (show IsS90 m _ g s0_0 aC aD from q6x2)):ab≠g));replace HI0:=aM (IsS90.below q6x2 hb);clear hb hbox hg;have hnb10:=a4.out;have hnc10:=a3.out;have hnb11:=aE.out;have hnc11:=bj.out;obtain⟨bk,bl,bm,bn,bo,bp,bq,br⟩:=cz4 b))
 (try simp only[Act.put,List.setIfInBounds_toArray,List.set_cons_zero,List.set_cons_succ])
 go_cut [] (fun wc=> ∃ (kq:Nat) (ai:Int),Aside0 (spec_l09Policy.j0 kq s0_0 aC aD 62 ac ai=some (r1,r2,r3,r4,r5,r6))∧Aside0 (kq≤k)∧Aside0 (wc.heap[ad]?=some (.cells #[.int .i64 0,.int .i64 0,.int .i64 0,(.slice none 0 0)] 41 (0,0)))∧Aside0 (wc.heap[ab]?=some (.cells #[.int .i64 62,.int .i64 ac,.int .i64 ai,(.slice none 0 0)] 41 (0,0)))∧Aside0 (IsS90 m wc g s0_0 aC aD)∧Aside0 (KeepBut w wc g none)∧Aside0 (Below m.heap.size m wc))
 case first=>
  have H:=HC3.out;clear HC3;by_cases aq:ac=2
  ·rw[if_pos aq]at H;obtain⟨ar,bs⟩:=eT aq;clear aq
   (first|rw[ar]|(simp only[i64_w,i32_w];rw[ar])|skip)
   have H':=aM H;clear H;have hnb14:=a4.out;have hnc14:=a3.out;have hnb15:=aE.out;have hnc15:=bj.out;obtain⟨bu,bv,bw,bx,bz,bA,bB,bC⟩:=cz4 b;go_wp2;go_meet
   case rel=>exact⟨_,(1),H',⟨oL⟩,⟨mK d⟩,⟨kS b _⟩,⟨q6x2⟩,⟨cK⟩,⟨q6x3⟩⟩
  ·rw[if_neg aq]at H;obtain⟨ar,bs⟩:=eF aq
   (first|rw[ar]|(simp only[i64_w,i32_w];rw[ar])|skip)
   have H':=aM H;clear H;go_wp2;go_meet
   case rel=>exact⟨_,(0),H',⟨oL⟩,⟨mK d⟩,⟨kS b _⟩,⟨q6x2⟩,⟨cK⟩,⟨q6x3⟩⟩
 case rest=>
  clear HC3;(try clear aq);(try clear ar);(try clear bs);(try clear bk bl bm bn);(try clear bu bv bw bx);(try clear bo bp bq br);(try clear bz bA bB bC);obtain⟨kq,ai,HA,HJ2,d,b,HI0,HK,HB⟩:=hcut
  cases kq with
  | zero=>exact absurd HA.out (by simp[spec_l09Policy.j0])
  | succ kj2=>
   have H:=HA.out;clear HA;simp only[spec_l09Policy.j0]at H;have H':=aM H;clear H;go_wp2
   go_loopg [4] kj2 (fun kq cG w'=> ∃ (aV:Int) (au:Int) (av:Int) (aw:List (S81)) (u271003:Value),cG= .int .i64 aV∧Aside0 (spec_l09Policy.l0 kq aV s0_0 au av 62 ac ai aw=some (r1,r2,r3,r4,r5,r6))∧Aside0 (kq≤kj2)∧Aside0 (Kd.S k81 81 w' w.heap.size (fun _=>True) u271003 aw)∧Aside0 (w'.heap[ad]?=some (.cells #[.int .i64 0,.int .i64 0,.int .i64 0,(.slice none 0 0)] 41 (0,0)))∧Aside0 (w'.heap[ab]?=some (.cells #[.int .i64 62,.int .i64 ac,.int .i64 ai,u271003] 41 (0,0)))∧Aside0 (IsS90 m w' g s0_0 au av)∧Aside0 (KeepBut w w' g none)∧Aside0 (Below m.heap.size m w'))
   case atStart=>exact⟨(0),(aC),(aD),(([] :List (S81))),(.slice none 0 0),rS,H',⟨Nat.le_refl _⟩,⟨by first|exact S_nil _ _ _ _ _|exact N_nil _ _ _ _ _|exact V_nil _ _ _ _ _|exact Q_nil _ _ _ _ _|exact R_nil _ _ _ _ _⟩,⟨mK d⟩,⟨mK b⟩,⟨q6x2⟩,⟨cK⟩,⟨q6x3⟩⟩
   case round=>
    clear H';(try clear aq);(try clear ar);(try clear bs);(try clear bk bl bm bn);(try clear bu bv bw bx);(try clear bo bp bq br);(try clear bz bA bB bC);(try clear b);obtain⟨aV,au,av,aw,u271003,rfl,HA,HK2,s,d,b,HI0,HK,HB⟩:=hrel
    cases gk with
    | zero=>exact absurd HA.out (by simp[spec_l09Policy.l0])
    | succ k2=>
     have H:=HA.out;clear HA;simp only[spec_l09Policy.l0]at H;replace H:=bE H;obtain⟨⟨bD,a5,a6⟩,bV,H⟩:=H;(try dsimp only at H);by_cases aG:aV<bD
     ·rw[if_pos aG]at H;have cI:=decide_eq_true aG;clear aG;replace H:=bE H;obtain⟨⟨aH,aI,aW,aX,bW,bX⟩,cJ,H⟩:=H;(try dsimp only at H);replace H:=gC H;obtain⟨bY,H⟩:=H;have cL:=aM bY;clear bY;obtain⟨bF,bZ⟩ : ∃ y_:List (S81),Aside0 (y_=(aw ++ [(⟨aH,aI,aW,aX⟩ :S81)])):=⟨_,⟨rfl⟩⟩;rw[← bZ.out]at H;have H':=aM H;clear H
      try go_wp2_with (first|((with_reducible refine gF 80 ?_);refine gX (some 15) Try.func80 (spec_l01Below.calls g s0_0 au av 5 bD a5 a6 m _ q6x2 q6x3 bV.out) ?_;rintro cM ⟨hi,hb,hk⟩;replace s:=aM (S_mono (S_keep (IsS90.apartS (show IsS90 m _ g s0_0 au av from q6x2) (by(with_reducible repeat(first|apply S_alloc|apply S_drewN|apply S_drew));exact s.out) (by decide)) hk (fun _ h=>h.2)) (fun _ h=>h.1));replace d:=bK hk d aT.out;replace b:=bK hk b aE.out;replace HK:=tK (w:=w) hk;replace HB:=aM hb;replace HI0:=aM hi;(try clear hb);(try clear hk);(try clear hi)))
      replace s:=aM (S_drew s.out);replace d:=dB d;replace b:=dB b;replace HI0:=aM (IsS90.drew HI0.out);replace HK:=aM (keep_drew HK.out);replace HB:=dW HB
      refine sV 8 (fun w'=>w'.cell? ⟨ab,0,none⟩=some (.int .i64 62)∧w'.cell? ⟨ab,1,none⟩=some (.int .i64 ac)∧w'.cell? ⟨ab,2,none⟩=some (.int .i64 ai)∧w'.cell? ⟨ab,3,none⟩=some (u271003)) (ds:=[7]) spec_l09Policy.tab7 spec_l09Policy.bits7 qh6x0 fun HT_ HW_ hHeld=>?_
      generalize cM.drew=cN at s d b HI0 HK HB hHeld ⊢;refine pZ 0 19 1 ?_;refine pZ 2 21 5 ?_;refine tZ 1 20 7 (y:=q6x4) (h:=?_)
      refine oZ 3 22 15 fun K hK=>?_
      refine eV Try.func81 (spec_l09Made.calls k2 g s0_0 a5 a6 aH aI aW aX bW bX m _ q6x2 q6x3 cJ.out) ?_
      rintro e cO ⟨c5,c7,rfl,af,bG,hi,hb,hk⟩;refine⟨_,rfl,?_⟩
      replace s:=aM (S_mono (S_told (S_told (S_oldK (IsS90.apartS (show IsS90 m _ g s0_0 a5 a6 from q6x2) (by(with_reducible repeat(first|apply S_alloc|apply S_drewN|apply S_drew));exact s.out) (by decide)) hk) (R_base af)) (R_base bG)) (fun _ h_=>h_.1))
      replace d:=bK hk d aT.out;replace b:=bK hk b aE.out;have a7:=aM (R_lower af (keep_size (w:=w) (g:=g) (row:=none) cK));have a8:=aM (R_lower bG (keep_size (w:=w) (g:=g) (row:=none) cK));replace HK:=tK (w:=w) hk;replace HB:=aM hb;replace HI0:=aM hi;(try clear hb);(try clear hk);(try clear hi);(try clear af);(try clear bG);obtain⟨b0,b1,b5⟩:=R_slice a7.out
      (first|subst b5|(injection b5 with f1_ f2_ f3_;have f4_:=f1_.symm;have f5_:=f3_.symm;clear f1_ f2_ f3_;subst f4_;subst f5_))
      obtain⟨b8,b9,ca⟩:=R_slice a8.out
      (first|subst ca|(injection ca with f1_ f2_ f3_;have f4_:=f1_.symm;have f5_:=f3_.symm;clear f1_ f2_ f3_;subst f4_;subst f5_))
      refine hK.out _ _ qh6x0 (fun hHeld=>?_)
      clear hK K;refine normZ (some 22) ?_
      refine oZ 4 23 31 fun K hK=>?_
      refine value_ (w1:=?_) (v:=?_) (by rfl) rfl ?_ ?_
      rotate_left 2
      ·go_simp;constructor
       ·rfl
       ·rfl
      refine hK.out _ _ ⟨(blk_cell (blk_alloc b.out _) 0).trans rfl,(blk_cell (blk_alloc b.out _) 1).trans rfl,(blk_cell (blk_alloc b.out _) 2).trans rfl,(blk_cell (blk_alloc b.out _) 3).trans rfl⟩ (fun hHeld=>?_)
      clear hK K;refine normZ (some 23) ?_
      refine oZ 5 24 63 fun K hK=>?_
      refine S_append_step k81 w.heap.size (by rfl) (.tmp 20) (.tmp 23) 39 81 (.agg #[(.slice none 0 0),(.slice none 0 0),(.int .i64 0),(.int .i64 0)]) 64 rfl Try.underlying39 info81 rfl (by decide) (by omega) u271003 aw (⟨aH,aI,aW,aX⟩ :S81) [.slice b0 aH.length b1,.slice b8 aI.length b9,.int .i64 aW,.int .i64 aX] (fun _=>True) (fun k_=>some k_=(.slice b0 aH.length b1:Value).ownBlock∨some k_=(.slice b8 aI.length b9:Value).ownBlock) rfl rfl ?aP (fun k_ hk_=>hk_.elim (fun h_=>((R_mono (ok':=fun k_=>((fun _=>True)) k_∧some k_≠(u271003:Value).ownBlock) (R_apart' (a7.out) (S_typed s.out) (by decide)) (fun k_ hk=>⟨trivial,hk.2⟩))).1 k_ h_.symm) (fun h_=>((R_mono (ok':=fun k_=>((fun _=>True)) k_∧some k_≠(u271003:Value).ownBlock) (R_apart' (a8.out) (S_typed s.out) (by decide)) (fun k_ hk=>⟨trivial,hk.2⟩))).1 k_ h_.symm)) ?aF ?aO (Below.refl _ _) ?aS ?aL ?_
      (case aP=>exact k81_mkM _ _ _ (⟨aH,aI,aW,aX⟩ :S81) (R_mono (R_tight rfl (R_mono (ok':=fun k_=>((fun _=>True)) k_∧some k_≠(u271003:Value).ownBlock) (R_apart' (a7.out) (S_typed s.out) (by decide)) (fun k_ hk=>⟨trivial,hk.2⟩))) (fun _ h_=>Or.inl h_)) (R_mono (R_tight rfl (R_mono (ok':=fun k_=>((fun _=>True)) k_∧some k_≠(u271003:Value).ownBlock) (R_apart' (a8.out) (S_typed s.out) (by decide)) (fun k_ hk=>⟨trivial,hk.2⟩))) (fun _ h_=>Or.inr (h_))))
      (case aF=>exact(fun _ _=>trivial))
      (case aO=>exact(by exact sM s (fun k_ hk=>⟨trivial,fun e_=>e_.elim (fun h_=>hk.1.2 h_) (fun h_=>hk.2 h_)⟩)))
      (case aS=>exact(keep_size (w:=w) (g:=g) (row:=none) cK))
      (case aL=>have:=cL.out;omega)
      intro da cP ho hb hg hat;rw[← bZ.out]at ho
      replace d:=aM (blk_grown (mK d) hg (S_ne s.out d.out (by decide)))
      replace b:=aM (blk_grown (mK b) hg (S_ne s.out b.out (by decide)))
      replace HB:=aM (below_weaken q6x3 HL.out hb)
      replace HI0:=aM (IsS90.grown q6x2 hg (IsS90.own_neS HI0.out s.out (by decide)))
      replace HK:=aM (KeepBut.trans (cK:KeepBut w _ g none) (KeepBut.of_grown hg g) (S_base2 s.out));have cb:=aM ho;clear s a7 a8 ho hb hg hat;obtain⟨cc,cd,ce⟩:=S_slice cb.out
      (first|subst ce|(injection ce with f1_ f2_ f3_;have f4_:=f1_.symm;have f5_:=f3_.symm;clear f1_ f2_ f3_;subst f4_;subst f5_))
      refine hK.out _ _ qh6x0 (fun hHeld=>?_)
      clear hK K;refine normZ (some 24) ?_
      refine pZ 6 25 127 ?_
      refine last_Z 7 (none) (msk 8 255) HT_.out fun K hK=>?_
      have hs28:cP.cell? ⟨ab,3,none⟩=some (u271003):=(blk_cell b.out 3).trans rfl;have hfs28:=blk_frozen b.out 3;have hns28_0:=a3.out;have hms28_0:=a4.out
      refine skip_ (w1:=?_) (by rfl) rfl ?_ ?_
      rotate_left
      ·go_simp;rfl
      refine hK.out _ _ ?_;clear hK K
      refine done_ (done_of HT_.out (by kernel_rfl)) ?_
      try go_wp2
      go_roundg k2
      case measure=>have:=HJ2.out;have:=HK2.out;omega
      case rel=>exact⟨(wrap64 (aV+1)),(bW),(bX),(bF),(.slice cc bF.length cd),rS,H',⟨by have:=HJ2.out;have:=HK2.out;omega⟩,⟨by(with_reducible repeat(first|apply S_alloc|apply S_drewN|apply S_drew));exact S_mono (S_far (p:=⟨ab,3,none⟩) (S_types cb.out b.out (by decide)) (fun _ hk=>hk.2) (.slice cc bF.length cd)) (fun _ hk=>trivial)⟩,⟨mK d⟩,⟨kS b _⟩,⟨q6x2⟩,⟨cK⟩,⟨q6x3⟩⟩
     ·rw[if_neg aG]at H;have cI:=decide_eq_false aG;clear aG;simp only[Option.some.injEq,Prod.mk.injEq]at H;obtain⟨rfl,rfl,rfl,rfl,rfl,rfl⟩:=H
      go_wp2_with (first|((with_reducible refine gF 80 ?_);refine gX (some 15) Try.func80 (spec_l01Below.calls g s0_0 au av 5 bD a5 a6 m _ q6x2 q6x3 bV.out) ?_;rintro db ⟨hi,hb,hk⟩;replace s:=aM (S_mono (S_keep (IsS90.apartS (show IsS90 m _ g s0_0 au av from q6x2) (by(with_reducible repeat(first|apply S_alloc|apply S_drewN|apply S_drew));exact s.out) (by decide)) hk (fun _ h=>h.2)) (fun _ h=>h.1));replace d:=bK hk d aT.out;replace b:=bK hk b aE.out;replace HK:=tK (w:=w) hk;replace HB:=aM hb;replace HI0:=aM hi;(try clear hb);(try clear hk);(try clear hi);have hnb30:=a4.out;have hnc30:=a3.out;have hnb31:=aE.out;have hnc31:=bj.out;obtain⟨dc,dd,de,df,dg,dh,di,dj⟩:=cz4 b;have hnb33:=aT.out;have hnc33:=cD.out;obtain⟨dk,dl,dm,dn,dp,dq,dr,dt⟩:=cz4 d;obtain⟨cf,cg,cQ⟩:=S_slice s.out;subst cQ))
      refine bodyPost_ret (results_cell_row rfl _ _ ad 41 #[.int .i64 62,.int .i64 ac,.int .i64 ai,.slice cf aw.length cg] (0,0) _ rfl (kS d _) Try.underlying41 rfl (by kernel_rfl)) rfl ?_
      exact⟨_,rE,by(with_reducible repeat(first|apply S_alloc|apply S_drewN|apply S_drew));exact S_mono (S_far (p:=⟨ad,3,none⟩) (S_far (p:=⟨ad,2,none⟩) (S_far (p:=⟨ad,1,none⟩) (S_far (p:=⟨ad,0,none⟩) (S_types s.out d.out (by decide)) (fun _ hk=>hk.2) (.int .i64 62)) (fun _ hk=>hk.2) (.int .i64 ac)) (fun _ hk=>hk.2) (.int .i64 ai)) (fun _ hk=>hk.2) (.slice cf aw.length cg)) (fun _ hk=>trivial),q6x2,q6x3,cK⟩
def spec_DrawPolicy.f (k:Nat) (aj:List Int):Option (Int×Int×Int×(List (S81))×Int×Int×(List (S93))):=(spec_l01New.f k aj).bind fun a9=>((spec_l09Policy.f k a9.1 a9.2.1 a9.2.2).bind fun aJ=>((spec_l04Call.f k a9.1 aJ.2.2.2.2.1 aJ.2.2.2.2.2).bind fun bH=>(some (aJ.1,aJ.2.1,aJ.2.2.1,aJ.2.2.2.1,bH.1,bH.2.1,bH.2.2.1))))
theorem q6x5 {P:Prop} (h:P:=by repeat(first|(with_reducible first|exact HI292.out|apply IsS90.alloc|apply IsS90.drewN|apply IsS90.drew|apply IsS90.set_1|apply IsS90.set_2|(apply IsS90.far;case hne=>exact(Aside0.out (by assumption))))|exact HI292.out)):P:=h
theorem q6x6 {P:Prop} (h:P:=by repeat(first|(with_reducible first|exact HB.out|apply below_alloc|apply pw_below_drewN|apply below_drew1|refine below_set ?_ (IsS90.ge HI292.out)|refine below_set ?_ (Aside0.out (by assumption)))|exact HB.out)):P:=h
set_option maxHeartbeats 8000000 in
set_option maxRecDepth 100000 in
theorem spec_DrawPolicy.calls {k:Nat}{ch:Option Addr}{ci:Nat}{aj:List Int}{r1:Int}{r2:Int}{r3:Int}{r4:List (S81)}{r5:Int}{r6:Int}{r7:List (S93)}{w:World}(h:spec_DrawPolicy.f k aj=some (r1,r2,r3,r4,r5,r6,r7))(cj:Kd.C (Kd.int .u8) w ch aj.length aj)(ck:aj.length≤ci) :
 Calls Try.prog 17 #[.slice ch aj.length ci] w fun e w'=> ∃ v3_ v6_:Value,e= .returned (.tuple #[.agg #[.int .i64 r1,.int .i64 r2,.int .i64 r3,v3_],.agg #[.int .i64 r5,.int .i64 r6,v6_]])∧Kd.S k81 81 w' w.heap.size (fun _=>True) v3_ r4∧Kd.R k93 93 w' w.heap.size (fun _=>True) v6_ r7∧Below w.heap.size w w':=by
 have hu41:=Try.underlying41;have hu28:=Try.underlying28;have HR0:=aM cj;have HC0:=aM ck;clear cj ck;have HB:=rW w
 unfold spec_DrawPolicy.f at h;have H:=h
 clear h;replace H:=bE H;obtain⟨⟨ax,cl,cm⟩,I,H⟩:=H;(try dsimp only at H);replace H:=bE H;obtain⟨⟨J,L,O,D,aK,aN⟩,ba,H⟩:=H;(try dsimp only at H);replace H:=bE H;obtain⟨⟨bI,bJ,bL,cR,cS⟩,ay,H⟩:=H;(try dsimp only at H);simp only[Option.some.injEq,Prod.mk.injEq]at H;obtain⟨rfl,rfl,rfl,rfl,rfl,rfl,rfl⟩:=H;go_enter Try.func17,Try.ntmps17
 try go_wp2_with (first|((with_reducible refine gN 2 ?_);refine boxZ 2 #[.int .i64 0,.int .i64 0,.int .i64 0,.slice none 0 0] 41 ?_;intro j hg bU hbox hb;have c:=aM hbox;have GW287:=gS hg;have GE287:=gS hg;replace HB:=sB hb;clear hb hbox hg)|((with_reducible refine gN 3 ?_);refine boxZ 3 #[.int .i64 0,.int .i64 0,.slice none 0 0] 28 ?_;intro q hg du hbox hb;have l:=aM hbox;have GW288:=gS hg;have GE288:=gS hg;replace HB:=sB hb;have az:=nL hg c;have aA:=nG hg c;replace c:=kB c hb;clear hb hbox hg)|((with_reducible refine gF 36 ?_);refine gV (some 7) Try.func36 (spec_l01New.calls k _ _ aj ax cl cm w _ cB HR0.out HC0.out I.out) ?_;rintro e cT ⟨g292,rfl,hi,hb,hb2⟩;refine⟨_,rfl,?_⟩;replace HB:=aM hb;have HI292:=aM hi;have dv:=aM (IsS90.ne_blk hi (blk_below (g:=j) (o:= .cells #[.int .i64 0,.int .i64 0,.int .i64 0,.slice none 0 0] 41 (0,0)) (mK c) hb2) (by decide));have cn:=aM (Ne.symm (IsS90.ne_blk hi (blk_below (g:=j) (o:= .cells #[.int .i64 0,.int .i64 0,.int .i64 0,.slice none 0 0] 41 (0,0)) (mK c) hb2) (by decide)));replace c:=aM (blk_below (g:=j) (o:= .cells #[.int .i64 0,.int .i64 0,.int .i64 0,.slice none 0 0] 41 (0,0)) (mK c) hb2);have dw:=aM (IsS90.ne_blk hi (blk_below (g:=q) (o:= .cells #[.int .i64 0,.int .i64 0,.slice none 0 0] 28 (0,0)) (mK l) hb2) (by decide));have co:=aM (Ne.symm (IsS90.ne_blk hi (blk_below (g:=q) (o:= .cells #[.int .i64 0,.int .i64 0,.slice none 0 0] 28 (0,0)) (mK l) hb2) (by decide)));replace l:=aM (blk_below (g:=q) (o:= .cells #[.int .i64 0,.int .i64 0,.slice none 0 0] 28 (0,0)) (mK l) hb2);(try clear hb);(try clear hb2);(try clear hi))|((with_reducible refine gF 49 ?_);refine gY (some 9) Try.func49 (spec_l09Policy.calls k g292 ax cl cm J L O D aK aN w _ q6x5 q6x6 ba.out) ?_;rintro dx cF ⟨af,hi,hb,hk⟩;replace c:=bK hk c cn.out;replace l:=bK hk l co.out;have Y:=aM (S_lower af (below_size q6x6));replace HB:=aM hb;replace HI292:=aM hi;(try clear hb);(try clear hk);(try clear hi);(try clear af))|((with_reducible refine gN 5 ?_);refine boxZ 5 #[.int .i64 0,.int .i64 0,.int .i64 0,.slice none 0 0] 41 ?_;intro a hg ae hbox hb;replace Y:=aM (S_below (by(with_reducible repeat(first|apply S_alloc|apply S_drewN|apply S_drew));exact Y.out) hb);have z:=aM hbox;have GW301:=aM ((by rw[hg];exact(below_size q6x6):w.heap.size≤a));have GE301:=aM ((by rw[hg];exact(below_size q6x6):w.heap.size≤a));replace HB:=aM (below_step q6x6 hb);have aY:=nL hg c;have t:=nG hg c;replace c:=kB c hb;have bb:=nL hg l;have A:=nG hg l;replace l:=kB l hb;have cU:=aM ((by rw[hg];exact Nat.ne_of_lt (IsS90.lt (show IsS90 w _ g292 ax aK aN from q6x5)):g292≠a));have cp:=aM ((by rw[hg];exact Nat.ne_of_gt (IsS90.lt (show IsS90 w _ g292 ax aK aN from q6x5)):a≠g292));replace HI292:=aM (IsS90.below q6x5 hb);clear hb hbox hg;have hnb10:=t.out;have hnc10:=aY.out;have hnb11:=A.out;have hnc11:=bb.out;have hnb12:=cp.out;have hnc12:=cU.out;obtain⟨dy,dz,dC,dD,dE,dF,dG,dH⟩:=cz4 z;obtain⟨U,W,cV⟩:=S_slice Y.out;subst cV))
 have n0_:Aside0 (Kd.S k81 81 ((((ae.setCell ⟨a,0,none⟩ (.int .i64 J)).setCell ⟨a,1,none⟩ (.int .i64 L)).setCell ⟨a,2,none⟩ (.int .i64 O)).setCell ⟨a,3,none⟩ (.slice U D.length W)) w.heap.size (fun _=>True) (.slice U D.length W) D):=⟨by(with_reducible repeat(first|apply S_alloc|apply S_drewN|apply S_drew));exact S_mono (S_far (p:=⟨a,3,none⟩) (S_far (p:=⟨a,2,none⟩) (S_far (p:=⟨a,1,none⟩) (S_far (p:=⟨a,0,none⟩) (S_types Y.out z.out (by decide)) (fun _ hk=>hk.2) (.int .i64 J)) (fun _ hk=>hk.2) (.int .i64 L)) (fun _ hk=>hk.2) (.int .i64 O)) (fun _ hk=>hk.2) (.slice U D.length W)) (fun _ hk=>trivial)⟩
 have n1_:Aside0 (((((ae.setCell ⟨a,0,none⟩ (.int .i64 J)).setCell ⟨a,1,none⟩ (.int .i64 L)).setCell ⟨a,2,none⟩ (.int .i64 O)).setCell ⟨a,3,none⟩ (.slice U D.length W)).heap[j]?=some (.cells #[.int .i64 0,.int .i64 0,.int .i64 0,.slice none 0 0] 41 (0,0))):=⟨mK c⟩;have n2_:Aside0 (((((ae.setCell ⟨a,0,none⟩ (.int .i64 J)).setCell ⟨a,1,none⟩ (.int .i64 L)).setCell ⟨a,2,none⟩ (.int .i64 O)).setCell ⟨a,3,none⟩ (.slice U D.length W)).heap[q]?=some (.cells #[.int .i64 0,.int .i64 0,.slice none 0 0] 28 (0,0))):=⟨mK l⟩
 have n3_:Aside0 (((((ae.setCell ⟨a,0,none⟩ (.int .i64 J)).setCell ⟨a,1,none⟩ (.int .i64 L)).setCell ⟨a,2,none⟩ (.int .i64 O)).setCell ⟨a,3,none⟩ (.slice U D.length W)).heap[a]?=some (.cells #[.int .i64 J,.int .i64 L,.int .i64 O,.slice U D.length W] 41 (0,0))):=⟨kS z _⟩
 have n4_:Aside0 (IsS90 w ((((ae.setCell ⟨a,0,none⟩ (.int .i64 J)).setCell ⟨a,1,none⟩ (.int .i64 L)).setCell ⟨a,2,none⟩ (.int .i64 O)).setCell ⟨a,3,none⟩ (.slice U D.length W)) g292 ax aK aN):=⟨q6x5⟩;have n5_:Aside0 (Below w.heap.size w ((((ae.setCell ⟨a,0,none⟩ (.int .i64 J)).setCell ⟨a,1,none⟩ (.int .i64 L)).setCell ⟨a,2,none⟩ (.int .i64 O)).setCell ⟨a,3,none⟩ (.slice U D.length W))):=⟨q6x6⟩;(try clear Y);(try clear c);(try clear l);(try clear z);(try clear HI292);(try clear HB);generalize ((((ae.setCell ⟨a,0,none⟩ (.int .i64 J)).setCell ⟨a,1,none⟩ (.int .i64 L)).setCell ⟨a,2,none⟩ (.int .i64 O)).setCell ⟨a,3,none⟩ (.slice U D.length W))=cq at n0_ n1_ n2_ n3_ n4_ n5_ ⊢;have Y:=n0_;have c:=n1_;have l:=n2_;have z:=n3_;have HI292:=n4_;have HB:=n5_;clear n0_ n1_ n2_ n3_ n4_ n5_;replace Y:=aM (S_drew Y.out);replace c:=dB c;replace l:=dB l;replace z:=dB z;replace HI292:=aM (IsS90.drew HI292.out);replace HB:=dW HB
 refine start_ (n:=5) (S:=fun w'=>w'.cell? ⟨a,0,none⟩=some (.int .i64 J)∧w'.cell? ⟨a,1,none⟩=some (.int .i64 L)∧w'.cell? ⟨a,2,none⟩=some (.int .i64 O)∧w'.cell? ⟨a,3,none⟩=some (.slice U D.length W)) (ds:=[]) #[false,false,false,false,false] (by kernel_rfl) rfl rfl ⟨(blk_cell z.out 0).trans rfl,(blk_cell z.out 1).trans rfl,(blk_cell z.out 2).trans rfl,(blk_cell z.out 3).trans rfl⟩ (fun hHeld=>?_)
 generalize cq.drew=dI at Y c l z HI292 HB hHeld ⊢
 refine pure_ (i:=1) (N:=some 11) (v:=?_) (a':=?_) #[false,true,false,false,false] rfl rfl (by kernel_rfl) (fun _ _ _ h=>h) (Or.inl ⟨by rfl,?_⟩) ?_ ?_
 rotate_left
 ·intro w';go_simp;with_reducible rfl
 rotate_left
 ·simp only[Act.put,List.setIfInBounds_toArray,List.set_cons_zero,List.set_cons_succ,i64_w,i32_w];rfl
 refine take_ (i:=0) (N:=some 10) (v:=?_) (a':=?_) #[true,true,false,false,false] rfl rfl (by kernel_rfl) (fun _ _ _ h=>h) (Or.inl ⟨by rfl,?_⟩) hHeld ?_ ?_
 rotate_left
 ·rintro w' ⟨s0,s1,s2,s3⟩;go_simp;with_reducible rfl
 rotate_left
 ·simp only[Act.put,List.setIfInBounds_toArray,List.set_cons_zero,List.set_cons_succ,i64_w,i32_w];rfl
 refine one_ (i:=2) (N:=some 12) #[true,true,true,false,false] rfl rfl (by kernel_rfl) (by decide) (fun K hK=>?_)
 refine eY Try.func37 (spec_l04Call.calls k g292 ax aK aN bI bJ bL cR cS w _ q6x5 q6x6 ay.out) ?_
 rintro dJ ak ⟨af,hi,hb,hk⟩;replace c:=bK hk c cn.out;replace l:=bK hk l co.out
 replace Y:=aM (S_mono (S_keep (IsS90.apartS (show IsS90 w _ g292 ax aK aN from q6x5) (by(with_reducible repeat(first|apply S_alloc|apply S_drewN|apply S_drew));exact Y.out) (by decide)) hk (fun _ h=>h.2)) (fun _ h=>h.1))
 replace z:=bK hk z cp.out;have cr:=aM (R_lower af (below_size q6x6));replace HB:=aM hb;replace HI292:=aM hi;(try clear hb);(try clear hk);(try clear hi);(try clear af);obtain⟨cs,ct,cu⟩:=R_slice cr.out
 (first|subst cu|(injection cu with f1_ f2_ f3_;have f4_:=f1_.symm;have f5_:=f3_.symm;clear f1_ f2_ f3_;subst f4_;subst f5_))
 refine hK.out _ _ ⟨(blk_cell z.out 0).trans rfl,(blk_cell z.out 1).trans rfl,(blk_cell z.out 2).trans rfl,(blk_cell z.out 3).trans rfl⟩ (fun hHeld=>?_)
 clear hK K;refine normZ (some 12) ?_
 refine one_ (i:=3) (N:=none) #[true,true,true,true,false] rfl rfl (by kernel_rfl) (by decide) (fun K hK=>?_)
 have hs18:ak.cell? ⟨j,0,none⟩=some (.int .i64 0):=(blk_cell c.out 0).trans rfl;have hfs18:=blk_frozen c.out 0;have hns18_1:=aA.out;have hns18_2:=t.out;have hms18_1:=az.out;have hms18_2:=aY.out;have hs19:ak.cell? ⟨j,1,none⟩=some (.int .i64 0):=(blk_cell c.out 1).trans rfl;have hfs19:=blk_frozen c.out 1;have hns19_1:=aA.out;have hns19_2:=t.out;have hms19_1:=az.out;have hms19_2:=aY.out;have hs20:ak.cell? ⟨j,2,none⟩=some (.int .i64 0):=(blk_cell c.out 2).trans rfl;have hfs20:=blk_frozen c.out 2;have hns20_1:=aA.out;have hns20_2:=t.out;have hms20_1:=az.out;have hms20_2:=aY.out;have hs21:ak.cell? ⟨j,3,none⟩=some (.slice none 0 0):=(blk_cell c.out 3).trans rfl;have hfs21:=blk_frozen c.out 3;have hns21_1:=aA.out;have hns21_2:=t.out;have hms21_1:=az.out;have hms21_2:=aY.out
 refine skip_ (w1:=?_) (by rfl) rfl ?_ ?_
 rotate_left
 ·go_simp;rfl
 refine hK.out _ _ ⟨((cell_far (p:=⟨j,_,none⟩) t.out _).trans (((cell_far (p:=⟨j,_,none⟩) t.out _).trans (((cell_far (p:=⟨j,_,none⟩) t.out _).trans (((cell_far (p:=⟨j,_,none⟩) t.out _).trans (hHeld.1)))))))),((cell_far (p:=⟨j,_,none⟩) t.out _).trans (((cell_far (p:=⟨j,_,none⟩) t.out _).trans (((cell_far (p:=⟨j,_,none⟩) t.out _).trans (((cell_far (p:=⟨j,_,none⟩) t.out _).trans (hHeld.2.1)))))))),((cell_far (p:=⟨j,_,none⟩) t.out _).trans (((cell_far (p:=⟨j,_,none⟩) t.out _).trans (((cell_far (p:=⟨j,_,none⟩) t.out _).trans (((cell_far (p:=⟨j,_,none⟩) t.out _).trans (hHeld.2.2.1)))))))),((cell_far (p:=⟨j,_,none⟩) t.out _).trans (((cell_far (p:=⟨j,_,none⟩) t.out _).trans (((cell_far (p:=⟨j,_,none⟩) t.out _).trans (((cell_far (p:=⟨j,_,none⟩) t.out _).trans (hHeld.2.2.2))))))))⟩ (fun hHeld=>?_)
 clear hK K
 refine one_ (i:=4) (N:=none) #[true,true,true,true,true] rfl rfl (by kernel_rfl) (by decide) (fun K hK=>?_)
 have hs22:ak.cell? ⟨q,0,none⟩=some (.int .i64 0):=(blk_cell l.out 0).trans rfl;have hfs22:=blk_frozen l.out 0;have hns22_0:=az.out;have hns22_2:=A.out;have hms22_0:=aA.out;have hms22_2:=bb.out;have hs23:ak.cell? ⟨q,1,none⟩=some (.int .i64 0):=(blk_cell l.out 1).trans rfl;have hfs23:=blk_frozen l.out 1;have hns23_0:=az.out;have hns23_2:=A.out;have hms23_0:=aA.out;have hms23_2:=bb.out;have hs25:ak.cell? ⟨q,2,none⟩=some (.slice none 0 0):=(blk_cell l.out 2).trans rfl;have hfs25:=blk_frozen l.out 2;have hns25_0:=az.out;have hns25_2:=A.out;have hms25_0:=aA.out;have hms25_2:=bb.out
 refine skip_ (w1:=?_) (by rfl) rfl ?_ ?_
 rotate_left
 ·go_simp;rfl
 refine hK.out _ _ ⟨((cell_far (p:=⟨q,_,none⟩) A.out _).trans (((cell_far (p:=⟨q,_,none⟩) A.out _).trans (((cell_far (p:=⟨q,_,none⟩) A.out _).trans (hHeld.1)))))),((cell_far (p:=⟨q,_,none⟩) A.out _).trans (((cell_far (p:=⟨q,_,none⟩) A.out _).trans (((cell_far (p:=⟨q,_,none⟩) A.out _).trans (hHeld.2.1)))))),((cell_far (p:=⟨q,_,none⟩) A.out _).trans (((cell_far (p:=⟨q,_,none⟩) A.out _).trans (((cell_far (p:=⟨q,_,none⟩) A.out _).trans (hHeld.2.2.1)))))),((cell_far (p:=⟨q,_,none⟩) A.out _).trans (((cell_far (p:=⟨q,_,none⟩) A.out _).trans (((cell_far (p:=⟨q,_,none⟩) A.out _).trans (hHeld.2.2.2))))))⟩ (fun hHeld=>?_)
 clear hK K
 refine done_ (by kernel_rfl) ?_
 try go_wp2
 refine bodyPost_ret (results_cc rfl _ _ j q 41 28 #[.int .i64 J,.int .i64 L,.int .i64 O,.slice U D.length W] #[.int .i64 bI,.int .i64 bJ,.slice cs bL.length ct] (0,0) (0,0) _ _ rfl (kS c _) Try.underlying41 rfl (by kernel_rfl) rfl (kS l _) Try.underlying28 rfl (by kernel_rfl)) rfl ?_
 exact⟨_,_,rE,by(with_reducible repeat(first|apply S_alloc|apply S_drewN|apply S_drew));exact S_mono (S_far (p:=⟨q,2,none⟩) (S_far (p:=⟨q,1,none⟩) (S_far (p:=⟨q,0,none⟩) (S_far (p:=⟨j,3,none⟩) (S_far (p:=⟨j,2,none⟩) (S_far (p:=⟨j,1,none⟩) (S_far (p:=⟨j,0,none⟩) (S_types (S_types Y.out c.out (by decide)) l.out (by decide)) (fun _ hk=>hk.1.2) (.int .i64 J)) (fun _ hk=>hk.1.2) (.int .i64 L)) (fun _ hk=>hk.1.2) (.int .i64 O)) (fun _ hk=>hk.1.2) (.slice U D.length W)) (fun _ hk=>hk.2) (.int .i64 bI)) (fun _ hk=>hk.2) (.int .i64 bJ)) (fun _ hk=>hk.2) (.slice cs bL.length ct)) (fun _ hk=>trivial),fR (R_types (R_types cr.out c.out (by decide)) l.out (by decide)) (fun _ hk=>trivial),q6x6⟩
def impl_within.f (u:Int) (X:Int) (aZ:Int):Option (Bool):=if u≥X then(some (decide (u≤aZ)))else(some false)
set_option maxHeartbeats 8000000 in
set_option maxRecDepth 100000 in
theorem impl_within.calls {u:Int}{X:Int}{aZ:Int}{r:Bool}{w:World}(h:impl_within.f u X aZ=some r) :
 Calls Try.prog 68 #[.int .i64 u,.int .i64 X,.int .i64 aZ] w fun e w'=>e= .returned (.bool r)∧Drawn0 w w':=by
 have H:(if u≥X then(some (decide (u≤aZ)))else(some false))=some r:=h;clear h;by_cases aa:u≥X
 ·rw[if_pos aa]at H;have cW:decide (X≤u)=true:=decide_eq_true aa;clear aa;obtain rfl:=Option.some.inj H;go_enter Try.func68,Try.ntmps68;go_wp2;go_ret
  exact⟨by first|rfl|(simp;done)|(simp[*];done),by repeat(first|exact Drawn0.refl _|apply Drawn0.step)⟩
 ·rw[if_neg aa]at H;have cW:decide (X≤u)=false:=decide_eq_false aa;clear aa;obtain rfl:=Option.some.inj H;go_enter Try.func68,Try.ntmps68;go_wp2;go_ret
  exact⟨by first|rfl|(simp;done)|(simp[*];done),by repeat(first|exact Drawn0.refl _|apply Drawn0.step)⟩
def impl_HalfOk.f (u:Int):Option (Bool):=(impl_within.f u 0 4294967295).bind fun cv=>(some cv)
set_option maxHeartbeats 8000000 in
set_option maxRecDepth 100000 in
theorem impl_HalfOk.calls {u:Int}{r:Bool}{w:World}(h:impl_HalfOk.f u=some r) :
 Calls Try.prog 83 #[.int .i64 u] w fun e w'=>e= .returned (.bool r)∧Drawn0 w w':=by
 unfold impl_HalfOk.f at h;have H:=h
 clear h;replace H:=bE H;obtain⟨cv,I,H⟩:=H;obtain rfl:=Option.some.inj H;go_enter Try.func83,Try.ntmps83
 go_wp2_with (first|((with_reducible refine gF 68 ?_);refine gX (some 4) Try.func68 (impl_within.calls I.out) ?_;rintro w' ⟨nd,rfl⟩))
 go_ret
 exact⟨by first|rfl|(simp;done)|(simp[*];done),by repeat(first|exact Drawn0.refl _|apply Drawn0.step)⟩
def impl_actionOk.f (u:Int) (X:Int):Option (Bool):=(impl_within.f u 0 5).bind fun bM=>(if bM=true then((impl_within.f X 0 65535).bind fun cw=>(some cw))else(some false))
set_option maxHeartbeats 8000000 in
set_option maxRecDepth 100000 in
theorem impl_actionOk.calls {u:Int}{X:Int}{r:Bool}{w:World}(h:impl_actionOk.f u X=some r) :
 Calls Try.prog 84 #[.int .i64 u,.int .i64 X] w fun e w'=>e= .returned (.bool r)∧Drawn0 w w':=by
 unfold impl_actionOk.f at h;have H:=h
 clear h;replace H:=bE H;obtain⟨bM,ba,H⟩:=H;by_cases aa:bM=true
 ·subst aa;replace H:=iT H;replace H:=bE H;obtain⟨cw,cX,H⟩:=H;obtain rfl:=Option.some.inj H;go_enter Try.func84,Try.ntmps84
  go_wp2_with (first|((with_reducible refine gF 68 ?_);refine gX (some 6) Try.func68 (impl_within.calls ba.out) ?_;rintro w' ⟨nd,rfl⟩)|(go_at_call 68;(with_reducible refine(impl_within.calls cX.out).mono ?_);rintro e w' ⟨rfl,⟨nd,rfl⟩⟩))
  go_ret
  exact⟨by first|rfl|(simp;done)|(simp[*];done),by repeat(first|exact Drawn0.refl _|apply Drawn0.step)⟩
 ·replace aa:=Bool.eq_false_iff.mpr aa;subst aa;replace H:=iF H;obtain rfl:=Option.some.inj H;go_enter Try.func84,Try.ntmps84
  go_wp2_with (first|((with_reducible refine gF 68 ?_);refine gX (some 6) Try.func68 (impl_within.calls ba.out) ?_;rintro w' ⟨nd,rfl⟩))
  go_ret
  exact⟨by first|rfl|(simp;done)|(simp[*];done),by repeat(first|exact Drawn0.refl _|apply Drawn0.step)⟩
def impl_WideOk.f (E:Int) (G:Int):Option (Bool):=(impl_HalfOk.f E).bind fun bN=>(if bN=true then((impl_HalfOk.f G).bind fun cx=>(some cx))else(some false))
set_option maxHeartbeats 8000000 in
set_option maxRecDepth 100000 in
theorem impl_WideOk.calls {E:Int}{G:Int}{r:Bool}{w:World}(h:impl_WideOk.f E G=some r) :
 Calls Try.prog 99 #[.agg #[.int .i64 E,.int .i64 G]] w fun e w'=>e= .returned (.bool r)∧Below w.heap.size w w':=by
 have hu93:=Try.underlying93;have HB:=rW w
 unfold impl_WideOk.f at h;have H:=h
 clear h;replace H:=bE H;obtain⟨bN,I,H⟩:=H;by_cases ag:bN=true
 ·subst ag;replace H:=iT H;replace H:=bE H;obtain⟨cx,ay,H⟩:=H;obtain rfl:=Option.some.inj H;go_enter Try.func99,Try.ntmps99
  go_wp2_with (first|((with_reducible refine gN 1 ?_);refine boxZ 1 #[.int .i64 E,.int .i64 G] 93 ?_;intro cY hg bU hbox hb;have bO:=aM hbox;have GW312:=gS hg;have GE312:=gS hg;replace HB:=sB hb;clear hb hbox hg;obtain⟨dK,dL,dM,dN⟩:=cz2 bO)|((with_reducible refine gF 83 ?_);refine gX (some 5) Try.func83 (impl_HalfOk.calls I.out) ?_;rintro w' ⟨nd,rfl⟩)|(go_at_call 83;(with_reducible refine(impl_HalfOk.calls ay.out).mono ?_);rintro e w' ⟨rfl,⟨nd,rfl⟩⟩))
  go_ret;exact⟨rE,cB⟩
 ·replace ag:=Bool.eq_false_iff.mpr ag;subst ag;replace H:=iF H;obtain rfl:=Option.some.inj H;go_enter Try.func99,Try.ntmps99
  go_wp2_with (first|((with_reducible refine gN 1 ?_);refine boxZ 1 #[.int .i64 E,.int .i64 G] 93 ?_;intro cY hg cT hbox hb;have bO:=aM hbox;have GW312:=gS hg;have GE312:=gS hg;replace HB:=sB hb;clear hb hbox hg;obtain⟨dO,dP,dQ,dS⟩:=cz2 bO)|((with_reducible refine gF 83 ?_);refine gX (some 5) Try.func83 (impl_HalfOk.calls I.out) ?_;rintro w' ⟨nd,rfl⟩))
  go_ret;exact⟨rE,cB⟩
def impl_CondOk.f (E:Int) (G:Int) (al:Int) (am:Int) (an:Int) (ao:Int):Option (Bool):=(impl_within.f E 0 2).bind fun bP=>(if bP=true then((impl_WideOk.f G al).bind fun bQ=>(if bQ=true then((impl_WideOk.f an ao).bind fun bR=>(if bR=true then((impl_within.f am 1 6).bind fun cy=>(some cy))else(some false)))else(some false)))else(some false))
set_option maxHeartbeats 8000000 in
set_option maxRecDepth 100000 in
theorem impl_CondOk.calls {E:Int}{G:Int}{al:Int}{am:Int}{an:Int}{ao:Int}{r:Bool}{w:World}(h:impl_CondOk.f E G al am an ao=some r) :
 Calls Try.prog 107 #[.agg #[.int .i64 E,.int .i64 G,.int .i64 al,.int .i64 am,.int .i64 an,.int .i64 ao]] w fun e w'=>e= .returned (.bool r)∧Below w.heap.size w w':=by
 have hu114:=Try.underlying114;have hu93:=Try.underlying93;have HB:=rW w
 unfold impl_CondOk.f at h;have H:=h
 clear h;replace H:=bE H;obtain⟨bP,I,H⟩:=H;by_cases ag:bP=true
 ·subst ag;replace H:=iT H;replace H:=bE H;obtain⟨bQ,ay,H⟩:=H;by_cases bd:bQ=true
  ·subst bd;replace H:=iT H;replace H:=bE H;obtain⟨bR,cz,H⟩:=H;by_cases be:bR=true
   ·subst be;replace H:=iT H;replace H:=bE H;obtain⟨cy,cZ,H⟩:=H;obtain rfl:=Option.some.inj H;go_enter Try.func107,Try.ntmps107
    go_wp2_with (first|((with_reducible refine gN 1 ?_);refine boxZ 1 #[.int .i64 E,.int .i64 G,.int .i64 al,.int .i64 am,.int .i64 an,.int .i64 ao] 114 ?_;intro bS hg ae hbox hb;have x:=aM hbox;have GW315:=gS hg;have GE315:=gS hg;replace HB:=sB hb;clear hb hbox hg;obtain⟨dT,dU,dV,dX,dY,dZ,d0,d1,d2,d3,d4,d5⟩:=cz6 x)|((with_reducible refine gF 68 ?_);refine gX (some 5) Try.func68 (impl_within.calls I.out) ?_;rintro w' ⟨nd,rfl⟩)|(go_at_call 99;(with_reducible refine(impl_WideOk.calls ay.out).mono ?_);rintro e d6 ⟨rfl,hb⟩;replace x:=kB x hb;replace HB:=sB hb;(try clear hb);obtain⟨bk,bl,bm,bn,d7,d8,bo,bp,bq,br,d9,ea⟩:=cz6 x)|(go_at_call 99;(with_reducible refine(impl_WideOk.calls cz.out).mono ?_);rintro e eb ⟨rfl,hb⟩;replace x:=kB x hb;replace HB:=sB hb;(try clear hb);obtain⟨ec,ed,ee,ef,eg,eh,ei,ej,ek,el,em,en⟩:=cz6 x)|(go_at_call 68;(with_reducible refine(impl_within.calls cZ.out).mono ?_);rintro e w' ⟨rfl,⟨nd,rfl⟩⟩))
    go_ret;exact⟨rE,cB⟩
   ·replace be:=Bool.eq_false_iff.mpr be;subst be;replace H:=iF H;obtain rfl:=Option.some.inj H;go_enter Try.func107,Try.ntmps107
    go_wp2_with (first|((with_reducible refine gN 1 ?_);refine boxZ 1 #[.int .i64 E,.int .i64 G,.int .i64 al,.int .i64 am,.int .i64 an,.int .i64 ao] 114 ?_;intro bS hg cq hbox hb;have x:=aM hbox;have GW315:=gS hg;have GE315:=gS hg;replace HB:=sB hb;clear hb hbox hg;obtain⟨bu,bv,bw,bx,eo,ep,bz,bA,bB,bC,eq,er⟩:=cz6 x)|((with_reducible refine gF 68 ?_);refine gX (some 5) Try.func68 (impl_within.calls I.out) ?_;rintro w' ⟨nd,rfl⟩)|(go_at_call 99;(with_reducible refine(impl_WideOk.calls ay.out).mono ?_);rintro e ak ⟨rfl,hb⟩;replace x:=kB x hb;replace HB:=sB hb;(try clear hb);obtain⟨es,et,eu,ev,ew,ex,ey,ez,eA,eC,eD,eE⟩:=cz6 x)|(go_at_call 99;(with_reducible refine(impl_WideOk.calls cz.out).mono ?_);rintro e eG ⟨rfl,hb⟩;replace x:=kB x hb;replace HB:=sB hb;(try clear hb)))
    go_ret;exact⟨rE,cB⟩
  ·replace bd:=Bool.eq_false_iff.mpr bd;subst bd;replace H:=iF H;obtain rfl:=Option.some.inj H;go_enter Try.func107,Try.ntmps107
   go_wp2_with (first|((with_reducible refine gN 1 ?_);refine boxZ 1 #[.int .i64 E,.int .i64 G,.int .i64 al,.int .i64 am,.int .i64 an,.int .i64 ao] 114 ?_;intro bS hg eH hbox hb;have x:=aM hbox;have GW315:=gS hg;have GE315:=gS hg;replace HB:=sB hb;clear hb hbox hg;obtain⟨eI,eJ,eK,eL,eM,eN,eO,eP,eQ,eR,eS,eU⟩:=cz6 x)|((with_reducible refine gF 68 ?_);refine gX (some 5) Try.func68 (impl_within.calls I.out) ?_;rintro w' ⟨nd,rfl⟩)|(go_at_call 99;(with_reducible refine(impl_WideOk.calls ay.out).mono ?_);rintro e cN ⟨rfl,hb⟩;replace x:=kB x hb;replace HB:=sB hb;(try clear hb)))
   go_ret;exact⟨rE,cB⟩
 ·replace ag:=Bool.eq_false_iff.mpr ag;subst ag;replace H:=iF H;obtain rfl:=Option.some.inj H;go_enter Try.func107,Try.ntmps107
  go_wp2_with (first|((with_reducible refine gN 1 ?_);refine boxZ 1 #[.int .i64 E,.int .i64 G,.int .i64 al,.int .i64 am,.int .i64 an,.int .i64 ao] 114 ?_;intro bS hg cO hbox hb;have x:=aM hbox;have GW315:=gS hg;have GE315:=gS hg;replace HB:=sB hb;clear hb hbox hg;obtain⟨eW,eZ,e0,e1,e2,e3,e4,e5,e6,e7,e8,e9⟩:=cz6 x)|((with_reducible refine gF 68 ?_);refine gX (some 5) Try.func68 (impl_within.calls I.out) ?_;rintro w' ⟨nd,rfl⟩))
  go_ret;exact⟨rE,cB⟩
end Go.Proofs.Ytpbalojiaghfhaa.PFnCompilesSmall
