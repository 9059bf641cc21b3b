import Derived.Test.YtpbalojiaghfhaaPFnStacksy0
import Derived.Test.YtpbalojiaghfhaaPFnStacksy2
import Derived.Test.YtpbalojiaghfhaaPFnStacksy5
namespace Go.Proofs.Ytpbalojiaghfhaa.PFnStacks
open Go.RowKit Go.Proofs.YtpbalojiaghfhaaW.PrintWords Go.Proofs.YtpbalojiaghfhaaW.PrintLast Go.Proofs.YtpbalojiaghfhaaW.PrintMore Go.Proofs.YtpbalojiaghfhaaW.Z
open Kd
attribute [local go_sem] isS max2_int min2_int max_two min_two max_three min_three max_four min_four
set_option linter.unusedVariables false
set_option linter.unusedSimpArgs false
theorem qh6x0 {P:Prop} (h:P:=by exact⟨(blk_cell a.out 0).trans rfl,(blk_cell a.out 1).trans rfl,(blk_cell a.out 2).trans rfl,(blk_cell a.out 3).trans rfl⟩):P:=h
mutual
def spec_l09Made.j0:Nat→List Int→Int→Int→Int→Int→Option (List Int×(List (S114))×Int×Int×Int×Int)
  | 0,_,_,_,_,_=>none
  | k+1,p,W,X,I,J=>(spec_l01Below.f p W X 4).bind fun az=>(spec_l09Made.l0 k (wrap64 (az.1 - 1)) 0 0 p az.2.1 az.2.2 ([] :List Int) I J)
def spec_l09Made.l0:Nat→Int→Int→Int→List Int→Int→Int→List Int→Int→Int→Option (List Int×(List (S114))×Int×Int×Int×Int)
  | 0,_,_,_,_,_,_,_,_,_=>none
  | k+1,a3,a4,a5,p,W,X,Y,I,J=>if a5<a3 then((spec_l01Below.f p W X 3).bind fun aw=>(if Y.length<17592186044416 then(spec_l09Made.l0 k a3 (wrap64 ((wrap64 (a4+1))+aw.1)) (wrap64 (a5+1)) p aw.2.1 aw.2.2 (Y ++ [wrap64 ((wrap64 ((wrap64 (a4+1))+aw.1)) - 1)]) I J)else(none)))else(spec_l09Made.l1 k 0 p W X Y ([] :List (S114)) I J)
def spec_l09Made.l1:Nat→Int→List Int→Int→Int→List Int→List (S114)→Int→Int→Option (List Int×(List (S114))×Int×Int×Int×Int)
  | 0,_,_,_,_,_,_,_,_=>none
  | k+1,a6,p,W,X,Y,aA,I,J=>(spec_l01Below.f p W X 3).bind fun af=>(if a6<af.1 then((spec_l09Cond.f p af.2.1 af.2.2).bind fun u=>(if aA.length<2932031007402 then(spec_l09Made.l1 k (wrap64 (a6+1)) p u.2.2.2.2.2.2.1 u.2.2.2.2.2.2.2 Y (aA ++ [(⟨u.1,(⟨u.2.1,u.2.2.1⟩ :S93),u.2.2.2.1,(⟨u.2.2.2.2.1,u.2.2.2.2.2.1⟩ :S93)⟩ :S114)]) I J)else(none)))else(some (Y,aA,I,J,af.2.1,af.2.2)))
end
def spec_l09Made.f (k:Nat) (s0_0:List Int) (s0_1:Int) (s0_2:Int):Option (List Int×(List (S114))×Int×Int×Int×Int):=(spec_l01PickInt.f s0_0 s0_1 s0_2 (([0,1,2,3,4,4,5] :List Int))).bind fun L=>(if L.1=2 then((spec_l01PickInt.f s0_0 L.2.1 L.2.2 (([1,13,65535] :List Int))).bind fun aB=>(spec_l09Made.j0 k s0_0 aB.2.1 aB.2.2 L.1 aB.1))else(spec_l09Made.j0 k s0_0 L.2.1 L.2.2 L.1 0))
def spec_l09Made.T14:Bool×List (List Nat×List Nat):=(true,[([],[]),([0],[0]),([],[]),([2],[2]),([3],[3]),([1,4,3],[1,4]),([0,1,2,3,4,5],[]),([6,5,5,0,1,2,3,4,5],[5,6])])
def spec_l09Made.B14:List Nat:=[0,1,0,4,12,31,63,127]
theorem spec_l09Made.tab14:rtab .any (opsOf Try.f81 14)=spec_l09Made.T14:=by kernel_rfl
theorem spec_l09Made.bits14:waitsOk spec_l09Made.T14.2 spec_l09Made.B14=true:=by kernel_rfl
theorem q6x0 {P:Prop} (h:P:=by repeat(first|(with_reducible first|exact HI0.out|apply IsS90.alloc|apply IsS90.drewN|apply IsS90.drew|apply IsS90.set_1|apply IsS90.set_2)|exact HI0.out)):P:=h
theorem q6x1 {P:Prop} (h:P:=by repeat(first|(with_reducible first|exact HB.out|apply below_alloc|apply pw_below_drewN|apply below_drew1|refine below_set ?_ (IsS90.ge HI0.out))|exact HB.out)):P:=h
theorem q6x2 {P:Prop} (h:P:=by repeat(first|(with_reducible first|exact HI0.out|apply IsS90.alloc|apply IsS90.drewN|apply IsS90.drew|apply IsS90.set_1|apply IsS90.set_2|(apply IsS90.far;case hne=>exact(Aside0.out (by assumption))))|exact HI0.out)):P:=h
theorem q6x3 {P:Prop} (h:P:=by repeat(first|(with_reducible first|exact HB.out|apply below_alloc|apply pw_below_drewN|apply below_drew1|refine below_set ?_ (IsS90.ge HI0.out)|refine below_set ?_ (Aside0.out (by assumption)))|exact HB.out)):P:=h
theorem q6x4 {P:Prop} (h:P:=by
 rintro w' ⟨s0,s1,s2,s3⟩
 go_simp
 with_reducible rfl):P:=h
set_option maxHeartbeats 8000000 in
set_option maxRecDepth 100000 in
theorem spec_l09Made.calls (k:Nat) (g:Nat) (s0_0:List Int) (s0_1:Int) (s0_2:Int) (r1:List Int) (r2:List (S114)) (r3:Int) (r4:Int) (r5:Int) (r6:Int) (c w:World) (hI:IsS90 c w g s0_0 s0_1 s0_2) (hB:Below c.heap.size c w) (h:spec_l09Made.f k s0_0 s0_1 s0_2=some (r1,r2,r3,r4,r5,r6)) :
 Calls Try.prog 81 #[.pointer (some ⟨g,0,none⟩)] w fun e w'=> ∃ v0_ v1_:Value,e= .returned (.agg #[v0_,v1_,.int .i64 r3,.int .i64 r4])∧Kd.R (Kd.int .i64) 3 w' w.heap.size (fun _=>True) v0_ r1∧Kd.R k114 114 w' w.heap.size (fun _=>True) v1_ r2∧IsS90 c w' g s0_0 r5 r6∧Below c.heap.size c w'∧KeepBut w w' g none:=by
 have hu81:=Try.underlying81;have HI0:=aM hI;have HK:=aM (KeepBut.refl w g none);have HL:=aM hB.size;clear hI;have HW0:=aM hB.size;have HB:=aM hB;clear hB
 unfold spec_l09Made.f at h;have H:=h
 clear h;obtain⟨br,aC⟩ : ∃ y_:List Int,Aside0 (y_=(([0,1,2,3,4,4,5] :List Int))):=⟨_,⟨rfl⟩⟩;rw[← aC.out]at H;replace H:=bE H;obtain⟨⟨m,x,z⟩,bs,H⟩:=H;(try dsimp only at H);have HC3:=aM H;clear H;go_enter Try.func81,Try.ntmps81
 go_upto_if 14 with(first|((with_reducible refine gN 2 ?_);refine boxZ 2 #[.slice none 0 0,.slice none 0 0,.int .i64 0,.int .i64 0] 81 ?_;intro aa hg ck hbox hb;replace HB:=aM (below_step q6x1 hb);have b:=aM hbox;have GW335:=gK (w:=w) hg;have GE335:=gW HW0 hg;replace HK:=aM (KeepBut.trans (cK:KeepBut w _ g none) (KeepBut.of_below hb g none) (.inl rfl));have bu:=aM ((by rw[hg];exact Nat.ne_of_lt (IsS90.lt (show IsS90 c _ g s0_0 s0_1 s0_2 from q6x0)):g≠aa));have A:=aM ((by rw[hg];exact Nat.ne_of_gt (IsS90.lt (show IsS90 c _ g s0_0 s0_1 s0_2 from q6x0)):aa≠g));replace HI0:=aM (IsS90.below q6x0 hb);clear hb hbox hg)|((with_reducible refine gN 9 ?_);refine R_lit (Kd.int .i64) _ 3 ?hg (N:=9) ?hd (xs:=([0,1,2,3,4,4,5] :List Int)) (inner:=[.int .i64 0,.int .i64 1,.int .i64 2,.int .i64 3,.int .i64 4,.int .i64 4,.int .i64 5]) (ok:=fun _=>True) (okp:=fun _=>True) ?hr ?hp (fun _ hk=>hk) trivial (Below.refl _ _) (Nat.le_refl _) (by simp) ?_;(case hd=>rfl);(case hg=>rfl);(case hr=>exact rG);(case hp=>exact(Reps.one (show Kd.M (Kd.int .i64) _ _ _ 0 [.int .i64 0]from rfl) (Reps.one (show Kd.M (Kd.int .i64) _ _ _ 1 [.int .i64 1]from rfl) (Reps.one (show Kd.M (Kd.int .i64) _ _ _ 2 [.int .i64 2]from rfl) (Reps.one (show Kd.M (Kd.int .i64) _ _ _ 3 [.int .i64 3]from rfl) (Reps.one (show Kd.M (Kd.int .i64) _ _ _ 4 [.int .i64 4]from rfl) (Reps.one (show Kd.M (Kd.int .i64) _ _ _ 4 [.int .i64 4]from rfl) (Reps.one (show Kd.M (Kd.int .i64) _ _ _ 5 [.int .i64 5]from rfl) (Reps.none _ _)))))))));intro cl cm ag hb hg_ hnew_;clear hg_ hnew_;(first|rw[← aC.out]at ag|(simp only[Int.reduceToNat]at ag;rw[← aC.out]at ag));have l:=aM (R_lower ag (keep_size (w:=w) (g:=g) (row:=none) cK));replace b:=kB b hb;replace HK:=aM (KeepBut.trans (cK:KeepBut w _ g none) (KeepBut.of_below hb g none) (.inl rfl));replace HB:=aM (below_step q6x3 hb);replace HI0:=aM (IsS90.below q6x2 hb);clear hb ag;obtain⟨cn,co,bv⟩:=R_slice l.out;subst bv)|((with_reducible refine gF 72 ?_);refine gX (some 10) Try.func72 (spec_l01PickInt.calls g s0_0 s0_1 s0_2 _ _ br m x z c _ q6x2 q6x3 (rX l) ((rY l)) (far_slice (IsS90.own_ne HI0.out l.out (by decide))) bs.out) ?_;rintro cp ⟨hi,hb,hk⟩;replace b:=bK hk b A.out;replace l:=aM (R_mono (R_keep (IsS90.apart (show IsS90 c _ g s0_0 s0_1 s0_2 from q6x2) (mR l) (by decide)) hk (fun _ h=>h.2)) (fun _ h=>h.1));replace HK:=tK (w:=w) hk;replace HB:=aM hb;replace HI0:=aM hi;(try clear hb);(try clear hk);(try clear hi))|((with_reducible refine gN 3 ?_);refine boxZ 3 #[.slice none 0 0,.slice none 0 0,.int .i64 0,.int .i64 0] 81 ?_;intro j hg bw hbox hb;replace l:=rB l hb;replace HB:=aM (below_step q6x3 hb);have a:=aM hbox;have GW342:=gK (w:=w) hg;have GE342:=gW HW0 hg;replace HK:=aM (KeepBut.trans (cK:KeepBut w _ g none) (KeepBut.of_below hb g none) (.inl rfl));have ah:=nL hg b;have ai:=nG hg b;replace b:=kB b hb;have ax:=aM ((by rw[hg];exact Nat.ne_of_lt (IsS90.lt (show IsS90 c _ g s0_0 x z from q6x2)):g≠j));have q:=aM ((by rw[hg];exact Nat.ne_of_gt (IsS90.lt (show IsS90 c _ g s0_0 x z from q6x2)):j≠g));replace HI0:=aM (IsS90.below q6x2 hb);clear hb hbox hg;have hnb10:=ai.out;have hnc10:=ah.out;have hnb11:=q.out;have hnc11:=ax.out;obtain⟨aD,aE,aG,aH,aI,aJ,aK,aN⟩:=cz4 a))
 (try simp only[Act.put,List.setIfInBounds_toArray,List.set_cons_zero,List.set_cons_succ])
 go_cut [] (fun wc=> ∃ (kq:Nat) (n:Int) (o:Int) (r:Int),Aside0 (spec_l09Made.j0 kq s0_0 n o m r=some (r1,r2,r3,r4,r5,r6))∧Aside0 (kq≤k)∧Aside0 (wc.heap[aa]?=some (.cells #[(.slice none 0 0),(.slice none 0 0),.int .i64 0,.int .i64 0] 81 (0,0)))∧Aside0 (wc.heap[j]?=some (.cells #[(.slice none 0 0),(.slice none 0 0),.int .i64 m,.int .i64 r] 81 (0,0)))∧Aside0 (IsS90 c wc g s0_0 n o)∧Aside0 (KeepBut w wc g none)∧Aside0 (Below c.heap.size c wc))
 case first=>
  have H:=HC3.out;clear HC3;by_cases D:m=2
  ·rw[if_pos D]at H;obtain⟨E,ay⟩:=eT D;clear D
   (first|rw[E]|(simp only[i64_w,i32_w];rw[E])|skip)
   obtain⟨bx,aQ⟩ : ∃ y_:List Int,Aside0 (y_=(([1,13,65535] :List Int))):=⟨_,⟨rfl⟩⟩;rw[← aQ.out]at H;replace H:=bE H;obtain⟨⟨a7,a8,a9⟩,bz,H⟩:=H;(try dsimp only at H);have H':=aM H;clear H
   go_wp2_with (first|((with_reducible refine gN 16 ?_);refine R_lit (Kd.int .i64) _ 3 ?hg (N:=16) ?hd (xs:=([1,13,65535] :List Int)) (inner:=[.int .i64 1,.int .i64 13,.int .i64 65535]) (ok:=fun _=>True) (okp:=fun _=>True) ?hr ?hp (fun _ hk=>hk) trivial (Below.refl _ _) (Nat.le_refl _) (by simp) ?_;(case hd=>rfl);(case hg=>rfl);(case hr=>exact rG);(case hp=>exact(Reps.one (show Kd.M (Kd.int .i64) _ _ _ 1 [.int .i64 1]from rfl) (Reps.one (show Kd.M (Kd.int .i64) _ _ _ 13 [.int .i64 13]from rfl) (Reps.one (show Kd.M (Kd.int .i64) _ _ _ 65535 [.int .i64 65535]from rfl) (Reps.none _ _)))));intro cq cr ab hb hg_ hnew_;clear hg_ hnew_;(first|rw[← aQ.out]at ab|(simp only[Int.reduceToNat]at ab;rw[← aQ.out]at ab));have ac:=aM (R_lower (R_new' ab (R_lt (by(with_reducible repeat(first|apply R_alloc|apply R_drewN|apply R_drew));exact(fR (R_types l.out a.out (by decide)) (fun _ h_=>h_.1))))) (keep_size (w:=w) (g:=g) (row:=none) cK));replace l:=aM (R_elder' (by(with_reducible repeat(first|apply R_alloc|apply R_drewN|apply R_drew));exact(fR (R_types l.out a.out (by decide)) (fun _ h_=>h_.1))) (R_base ab) hb);replace b:=kB b hb;replace a:=kP a hb (.cells #[.slice none 0 0,.slice none 0 0,.int .i64 m,.int .i64 0] 81 (0,0));replace HK:=aM (KeepBut.trans (cK:KeepBut w _ g none) (KeepBut.of_below hb g none) (.inl rfl));replace HB:=aM (below_step q6x3 hb);replace HI0:=aM (IsS90.below (show IsS90 c ((((bw.setCell ⟨j,0,none⟩ (.slice none 0 0)).setCell ⟨j,1,none⟩ (.slice none 0 0)).setCell ⟨j,2,none⟩ (.int .i64 m)).setCell ⟨j,3,none⟩ (.int .i64 0)) g s0_0 x z from q6x2) hb);clear hb ab;obtain⟨cs,ct,bA⟩:=R_slice ac.out;subst bA)|((with_reducible refine gF 72 ?_);refine gX (some 17) Try.func72 (spec_l01PickInt.calls g s0_0 x z _ _ bx a7 a8 a9 c _ q6x2 q6x3 (rX ac) ((rY ac)) (far_slice (IsS90.own_ne HI0.out ac.out (by decide))) bz.out) ?_;rintro cu ⟨hi,hb,hk⟩;replace b:=bK hk b A.out;replace l:=aM (R_mono (R_keep (IsS90.apart (show IsS90 c _ g s0_0 x z from q6x2) (mR l) (by decide)) hk (fun _ h=>h.2)) (fun _ h=>h.1));replace a:=bK hk a q.out;replace ac:=aM (R_mono (R_keep (IsS90.apart (show IsS90 c _ g s0_0 x z from q6x2) (mR ac) (by decide)) hk (fun _ h=>h.2)) (fun _ h=>h.1));replace HK:=tK (w:=w) hk;replace HB:=aM hb;replace HI0:=aM hi;(try clear hb);(try clear hk);(try clear hi);have hnb19:=ai.out;have hnc19:=ah.out;have hnb20:=q.out;have hnc20:=ax.out;obtain⟨aR,aT,aU,aV,aW,aX,aY,aZ⟩:=cz4 a))
   go_meet
   case rel=>exact⟨_,(a8),(a9),(a7),H',⟨oL⟩,⟨mK b⟩,⟨kS a _⟩,⟨q6x2⟩,⟨cK⟩,⟨q6x3⟩⟩
  ·rw[if_neg D]at H;obtain⟨E,ay⟩:=eF D
   (first|rw[E]|(simp only[i64_w,i32_w];rw[E])|skip)
   have H':=aM H;clear H;go_wp2;go_meet
   case rel=>exact⟨_,(x),(z),(0),H',⟨oL⟩,⟨mK b⟩,⟨kS a _⟩,⟨q6x2⟩,⟨cK⟩,⟨q6x3⟩⟩
 case rest=>
  clear HC3;(try clear D);(try clear E);(try clear ay);(try clear aD aE aG aH);(try clear aR aT aU aV);(try clear aI aJ aK aN);(try clear aW aX aY aZ);obtain⟨kq,n,o,r,HA,HJ2,b,a,HI0,HK,HB⟩:=hcut
  cases kq with
  | zero=>exact absurd HA.out (by simp[spec_l09Made.j0])
  | succ kj2=>
   have H:=HA.out;clear HA;simp only[spec_l09Made.j0]at H;replace H:=bE H;obtain⟨⟨a0,ba,bb⟩,bB,H⟩:=H;(try dsimp only at H);have H':=aM H;clear H
   go_wp2_with (first|((with_reducible refine gF 80 ?_);refine gX (some 20) Try.func80 (spec_l01Below.calls g s0_0 n o 4 a0 ba bb c _ q6x2 q6x3 bB.out) ?_;rintro cv ⟨hi,hb,hk⟩;replace b:=bK hk b A.out;replace a:=bK hk a q.out;replace HK:=tK (w:=w) hk;replace HB:=aM hb;replace HI0:=aM hi;(try clear hb);(try clear hk);(try clear hi)))
   go_loopg [5,6] kj2 (fun kq bC bD w'=> ∃ (O:Int) (aj:Int) (n:Int) (o:Int) (G:List Int) (u343000:Value),bC= .int .i64 O∧bD= .int .i64 aj∧Aside0 (spec_l09Made.l0 kq (wrap64 (a0 - 1)) O aj s0_0 n o G m r=some (r1,r2,r3,r4,r5,r6))∧Aside0 (kq≤kj2)∧Aside0 (Kd.R (Kd.int .i64) 3 w' w.heap.size (fun _=>True) u343000 G)∧Aside0 (w'.heap[aa]?=some (.cells #[(.slice none 0 0),(.slice none 0 0),.int .i64 0,.int .i64 0] 81 (0,0)))∧Aside0 (w'.heap[j]?=some (.cells #[u343000,(.slice none 0 0),.int .i64 m,.int .i64 r] 81 (0,0)))∧Aside0 (IsS90 c w' g s0_0 n o)∧Aside0 (KeepBut w w' g none)∧Aside0 (Below c.heap.size c w'))
   case atStart=>exact⟨(0),(0),(ba),(bb),(([] :List Int)),(.slice none 0 0),rS,rS,H',⟨Nat.le_refl _⟩,⟨by first|exact R_nil _ _ _ _ _|exact N_nil _ _ _ _ _|exact V_nil _ _ _ _ _|exact Q_nil _ _ _ _ _|exact S_nil _ _ _ _ _⟩,⟨mK b⟩,⟨mK a⟩,⟨q6x2⟩,⟨cK⟩,⟨q6x3⟩⟩
   case round=>
    clear H';(try clear D);(try clear E);(try clear ay);(try clear aD aE aG aH);(try clear aR aT aU aV);(try clear aI aJ aK aN);(try clear aW aX aY aZ);(try clear a);obtain⟨O,aj,n,o,G,u343000,rfl,rfl,HA,HK2,d,b,a,HI0,HK,HB⟩:=hrel
    cases gk with
    | zero=>exact absurd HA.out (by simp[spec_l09Made.l0])
    | succ k2=>
     have H:=HA.out;clear HA;simp only[spec_l09Made.l0]at H;by_cases U:aj<(wrap64 (a0 - 1))
     ·rw[if_pos U]at H;have bd:=decide_eq_true U;clear U;replace H:=bE H;obtain⟨⟨ak,be,bf⟩,bF,H⟩:=H;(try dsimp only at H);replace H:=gC H;obtain⟨a1,H⟩:=H;have bG:=aM a1;clear a1;obtain⟨bg,bh⟩ : ∃ y_:List Int,Aside0 (y_=(G ++ [wrap64 ((wrap64 ((wrap64 (O+1))+ak)) - 1)])):=⟨_,⟨rfl⟩⟩;rw[← bh.out]at H;have H':=aM H;clear H
      go_wp2_with (first|((with_reducible refine gF 80 ?_);refine gX (some 30) Try.func80 (spec_l01Below.calls g s0_0 n o 3 ak be bf c _ q6x2 q6x3 bF.out) ?_;rintro cw ⟨hi,hb,hk⟩;replace d:=aM (R_mono (R_keep (IsS90.apart (show IsS90 c _ g s0_0 n o from q6x2) (mR d) (by decide)) hk (fun _ h=>h.2)) (fun _ h=>h.1));replace b:=bK hk b A.out;replace a:=bK hk a q.out;replace HK:=tK (w:=w) hk;replace HB:=aM hb;replace HI0:=aM hi;(try clear hb);(try clear hk);(try clear hi);have hnb28:=ai.out;have hnc28:=ah.out;have hnb29:=q.out;have hnc29:=ax.out;obtain⟨bH,bI,bJ,bL,bM,bN,bO,bP⟩:=cz4 a)|((with_reducible refine gA 33 36 ?_);at_builtin;refine R_append (Kd.int .i64) w.heap.size rfl (.tmp 33) (.tmp 36) 46 3 (.int .i64 0) 8 rfl Try.underlying46 info3 rfl (by decide) (by omega) u343000 G (wrap64 ((wrap64 ((wrap64 (O+1))+ak)) - 1)) [.int .i64 (wrap64 ((wrap64 ((wrap64 (O+1))+ak)) - 1))] (fun _=>True) (fun _=>False) rfl rfl ?aP (fun _ hk=>hk.elim) ?aF ?aO (Below.refl _ _) ?aS ?aL ?_;(case aP=>exact rfl);(case aF=>exact(fun _ _=>trivial));(case aO=>exact(mR d));(case aS=>exact(keep_size (w:=w) (g:=g) (row:=none) cK));(case aL=>have:=bG.out;omega);intro cx cy ho hb hg hat;rw[← bh.out]at ho;replace b:=kN b hg d b;replace a:=kN a hg d a;replace HB:=aM (below_weaken q6x3 HL.out hb);replace HI0:=aM (IsS90.grown q6x2 hg (IsS90.own_ne HI0.out d.out (by decide)));replace HK:=aM (KeepBut.trans (cK:KeepBut w _ g none) (KeepBut.of_grown hg g) (R_base2 d.out));have bi:=aM ho;clear d ho hb hg hat;obtain⟨bQ,bR,bS⟩:=R_slice bi.out;subst bS;obtain⟨bT,bU,bV,bW,bX,bY,bZ,b0⟩:=cz4 a))
      go_roundg k2
      case measure=>have:=HJ2.out;have:=HK2.out;omega
      case rel=>exact⟨(wrap64 ((wrap64 (O+1))+ak)),(wrap64 (aj+1)),(be),(bf),(bg),(.slice bQ bg.length bR),rS,rS,H',⟨by have:=HJ2.out;have:=HK2.out;omega⟩,⟨fR (R_types bi.out a.out (by decide)) (fun _ hk=>trivial)⟩,⟨mK b⟩,⟨kS a _⟩,⟨q6x2⟩,⟨cK⟩,⟨q6x3⟩⟩
     ·rw[if_neg U]at H;have bd:=decide_eq_false U;clear U;have H':=aM H;clear H;go_wp2
      go_loopg [7] k2 (fun kq b1 w'=> ∃ (al:Int) (s:Int) (t:Int) (ad:List (S114)) (u343001:Value),b1= .int .i64 al∧Aside0 (spec_l09Made.l1 kq al s0_0 s t G ad m r=some (r1,r2,r3,r4,r5,r6))∧Aside0 (kq≤k2)∧Aside0 (Kd.R (Kd.int .i64) 3 w' w.heap.size (fun _=>True) u343000 G)∧Aside0 (Kd.R k114 114 w' w.heap.size (fun _=>True) u343001 ad)∧Aside0 (w'.heap[aa]?=some (.cells #[(.slice none 0 0),(.slice none 0 0),.int .i64 0,.int .i64 0] 81 (0,0)))∧Aside0 (w'.heap[j]?=some (.cells #[u343000,u343001,.int .i64 m,.int .i64 r] 81 (0,0)))∧Aside0 (IsS90 c w' g s0_0 s t)∧Aside0 (KeepBut w w' g none)∧Aside0 (Below c.heap.size c w'))
      case atStart=>exact⟨(0),(n),(o),(([] :List (S114))),(.slice none 0 0),rS,H',⟨Nat.le_refl _⟩,⟨mR d⟩,⟨by first|exact R_nil _ _ _ _ _|exact N_nil _ _ _ _ _|exact V_nil _ _ _ _ _|exact Q_nil _ _ _ _ _|exact S_nil _ _ _ _ _⟩,⟨mK b⟩,⟨mK a⟩,⟨q6x2⟩,⟨cK⟩,⟨q6x3⟩⟩
      case round=>
       clear H';(try clear D);(try clear E);(try clear ay);(try clear U);(try clear bd);(try clear a1);(try clear aD aE aG aH);(try clear aR aT aU aV);(try clear bH bI bJ bL);(try clear bT bU bV bW);(try clear aI aJ aK aN);(try clear aW aX aY aZ);(try clear bM bN bO bP);(try clear bX bY bZ b0);(try clear a);obtain⟨al,s,t,ad,u343001,rfl,HA,HK3,d,i,b,a,HI0,HK,HB⟩:=hrel
       cases gk with
       | zero=>exact absurd HA.out (by simp[spec_l09Made.l1])
       | succ k3=>
        have H:=HA.out;clear HA;simp only[spec_l09Made.l1]at H;replace H:=bE H;obtain⟨⟨a2,am,an⟩,bj,H⟩:=H;(try dsimp only at H);by_cases ae:al<a2
        ·rw[if_pos ae]at H;have b5:=decide_eq_true ae;clear ae;replace H:=bE H;obtain⟨⟨ao,ap,aq,ar,au,av,bk,bl⟩,b8,H⟩:=H;(try dsimp only at H);replace H:=gC H;obtain⟨bm,H⟩:=H;have b9:=aM bm;clear bm;obtain⟨bn,bo⟩ : ∃ y_:List (S114),Aside0 (y_=(ad ++ [(⟨ao,(⟨ap,aq⟩ :S93),ar,(⟨au,av⟩ :S93)⟩ :S114)])):=⟨_,⟨rfl⟩⟩;rw[← bo.out]at H;have H':=aM H;clear H
         try go_wp2_with (first|((with_reducible refine gF 80 ?_);refine gX (some 41) Try.func80 (spec_l01Below.calls g s0_0 s t 3 a2 am an c _ q6x2 q6x3 bj.out) ?_;rintro ca ⟨hi,hb,hk⟩;replace d:=aM (R_mono (R_keep (IsS90.apart (show IsS90 c _ g s0_0 s t from q6x2) (mR d) (by decide)) hk (fun _ h=>h.2)) (fun _ h=>h.1));replace i:=aM (R_mono (R_keep (IsS90.apart (show IsS90 c _ g s0_0 s t from q6x2) (mR i) (by decide)) hk (fun _ h=>h.2)) (fun _ h=>h.1));replace b:=bK hk b A.out;replace a:=bK hk a q.out;replace HK:=tK (w:=w) hk;replace HB:=aM hb;replace HI0:=aM hi;(try clear hb);(try clear hk);(try clear hi)))
         replace d:=dR d;replace i:=dR i;replace b:=dB b;replace a:=dB a;replace HI0:=aM (IsS90.drew HI0.out);replace HK:=aM (keep_drew HK.out);replace HB:=dW HB
         refine sV 8 (fun w'=>w'.cell? ⟨j,0,none⟩=some (u343000)∧w'.cell? ⟨j,1,none⟩=some (u343001)∧w'.cell? ⟨j,2,none⟩=some (.int .i64 m)∧w'.cell? ⟨j,3,none⟩=some (.int .i64 r)) (ds:=[7]) spec_l09Made.tab14 spec_l09Made.bits14 qh6x0 fun HT_ HW_ hHeld=>?_
         generalize ca.drew=cz at d i b a HI0 HK HB hHeld ⊢;refine pZ 0 45 1 ?_;refine pZ 2 47 5 ?_;refine tZ 1 46 7 (y:=q6x4) (h:=?_)
         refine oZ 3 48 15 fun K hK=>?_
         refine eX Try.func106 (spec_l09Cond.calls g s0_0 am an ao ap aq ar au av bk bl c _ q6x2 q6x3 b8.out) ?_
         rintro cA ⟨hi,hb,hk⟩
         replace d:=aM (R_mono (R_keep (IsS90.apart (show IsS90 c _ g s0_0 am an from q6x2) (mR d) (by decide)) hk (fun _ h=>h.2)) (fun _ h=>h.1))
         replace i:=aM (R_mono (R_keep (IsS90.apart (show IsS90 c _ g s0_0 am an from q6x2) (mR i) (by decide)) hk (fun _ h=>h.2)) (fun _ h=>h.1))
         replace b:=bK hk b A.out;replace a:=bK hk a q.out;replace HK:=tK (w:=w) hk;replace HB:=aM hb;replace HI0:=aM hi;(try clear hb);(try clear hk);(try clear hi)
         refine hK.out _ _ qh6x0 (fun hHeld=>?_)
         clear hK K;refine normZ (some 48) ?_
         refine oZ 4 49 31 fun K hK=>?_
         refine value_ (w1:=?_) (v:=?_) (by rfl) rfl ?_ ?_
         rotate_left 2
         ·go_simp;constructor
          ·rfl
          ·rfl
         refine hK.out _ _ ⟨(blk_cell (blk_alloc a.out _) 0).trans rfl,(blk_cell (blk_alloc a.out _) 1).trans rfl,(blk_cell (blk_alloc a.out _) 2).trans rfl,(blk_cell (blk_alloc a.out _) 3).trans rfl⟩ (fun hHeld=>?_)
         clear hK K;refine normZ (some 49) ?_
         refine oZ 5 50 63 fun K hK=>?_
         refine R_append_step k114 w.heap.size (by rfl) (.tmp 46) (.tmp 49) 79 114 (.agg #[(.int .i64 0),(.int .i64 0),(.int .i64 0),(.int .i64 0),(.int .i64 0),(.int .i64 0)]) 48 rfl Try.underlying79 info114 rfl (by decide) (by omega) u343001 ad (⟨ao,(⟨ap,aq⟩ :S93),ar,(⟨au,av⟩ :S93)⟩ :S114) [.int .i64 ao,.int .i64 ap,.int .i64 aq,.int .i64 ar,.int .i64 au,.int .i64 av] (fun _=>True) (fun _=>False) rfl rfl ?aP (fun _ hk=>hk.elim) ?aF ?aO (Below.refl _ _) ?aS ?aL ?_
         (case aP=>exact k114_mkM _ _ _ (⟨ao,(⟨ap,aq⟩ :S93),ar,(⟨au,av⟩ :S93)⟩ :S114))
         (case aF=>exact(fun _ _=>trivial))
         (case aO=>exact(mR i))
         (case aS=>exact(keep_size (w:=w) (g:=g) (row:=none) cK))
         (case aL=>have:=b9.out;omega)
         intro cD cb ho hb hg hat;rw[← bo.out]at ho
         replace d:=aM (R_over' (mR d) (R_typed (mR i)) (by decide) hg)
         replace b:=kN b hg i b
         replace a:=kN a hg i a
         replace HB:=aM (below_weaken q6x3 HL.out hb)
         replace HI0:=aM (IsS90.grown q6x2 hg (IsS90.own_ne HI0.out i.out (by decide)))
         replace HK:=aM (KeepBut.trans (cK:KeepBut w _ g none) (KeepBut.of_grown hg g) (R_base2 i.out));have bp:=aM ho;clear i ho hb hg hat;obtain⟨cc,cd,bq⟩:=R_slice bp.out
         (first|subst bq|(injection bq with f1_ f2_ f3_;have f4_:=f1_.symm;have f5_:=f3_.symm;clear f1_ f2_ f3_;subst f4_;subst f5_))
         refine hK.out _ _ qh6x0 (fun hHeld=>?_)
         clear hK K;refine normZ (some 50) ?_
         refine pZ 6 51 127 ?_
         refine last_Z 7 (none) (msk 8 255) HT_.out fun K hK=>?_
         have hs43:cb.cell? ⟨j,1,none⟩=some (u343001):=(blk_cell a.out 1).trans rfl;have hfs43:=blk_frozen a.out 1;have hns43_0:=ah.out;have hms43_0:=ai.out
         refine skip_ (w1:=?_) (by rfl) rfl ?_ ?_
         rotate_left
         ·go_simp;rfl
         refine hK.out _ _ ?_;clear hK K
         refine done_ (done_of HT_.out (by kernel_rfl)) ?_
         try go_wp2
         go_roundg k3
         case measure=>have:=HJ2.out;have:=HK2.out;have:=HK3.out;omega
         case rel=>exact⟨(wrap64 (al+1)),(bk),(bl),(bn),(.slice cc bn.length cd),rS,H',⟨by have:=HJ2.out;have:=HK2.out;have:=HK3.out;omega⟩,⟨fR (R_types d.out a.out (by decide)) (fun _ hk=>trivial)⟩,⟨fR (R_types bp.out a.out (by decide)) (fun _ hk=>trivial)⟩,⟨mK b⟩,⟨kS a _⟩,⟨q6x2⟩,⟨cK⟩,⟨q6x3⟩⟩
        ·rw[if_neg ae]at H;have b5:=decide_eq_false ae;clear ae;simp only[Option.some.injEq,Prod.mk.injEq]at H;obtain⟨rfl,rfl,rfl,rfl,rfl,rfl⟩:=H
         go_wp2_with (first|((with_reducible refine gF 80 ?_);refine gX (some 41) Try.func80 (spec_l01Below.calls g s0_0 s t 3 a2 am an c _ q6x2 q6x3 bj.out) ?_;rintro cE ⟨hi,hb,hk⟩;replace d:=aM (R_mono (R_keep (IsS90.apart (show IsS90 c _ g s0_0 s t from q6x2) (mR d) (by decide)) hk (fun _ h=>h.2)) (fun _ h=>h.1));replace i:=aM (R_mono (R_keep (IsS90.apart (show IsS90 c _ g s0_0 s t from q6x2) (mR i) (by decide)) hk (fun _ h=>h.2)) (fun _ h=>h.1));replace b:=bK hk b A.out;replace a:=bK hk a q.out;replace HK:=tK (w:=w) hk;replace HB:=aM hb;replace HI0:=aM hi;(try clear hb);(try clear hk);(try clear hi);have hnb45:=ai.out;have hnc45:=ah.out;have hnb46:=q.out;have hnc46:=ax.out;obtain⟨cF,cG,cI,cJ,cL,cM,cN,cO⟩:=cz4 a;obtain⟨ce,cf,cg⟩:=R_slice d.out;subst cg;have hnb49:=A.out;have hnc49:=bu.out;obtain⟨cP,cQ,cR,cS,cT,cU,cV,cW⟩:=cz4 b;obtain⟨ch,ci,cj⟩:=R_slice i.out;subst cj))
         refine bodyPost_ret (results_cell_row rfl _ _ aa 81 #[.slice ce G.length cf,.slice ch ad.length ci,.int .i64 m,.int .i64 r] (0,0) _ rfl (kS b _) Try.underlying81 rfl (by kernel_rfl)) rfl ?_
         exact⟨_,_,rE,fR (R_types d.out b.out (by decide)) (fun _ hk=>trivial),fR (R_types i.out b.out (by decide)) (fun _ hk=>trivial),q6x2,q6x3,cK⟩
end Go.Proofs.Ytpbalojiaghfhaa.PFnStacks
