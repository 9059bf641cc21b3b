import Derived.Test.YtfhjjfibblcklaaPFnExactReadPolicyy0
import Derived.Test.YtfhjjfibblcklaaPFnExactReadPolicyy3
import Derived.Test.YtfhjjfibblcklaaPFnExactReadPolicyy5
namespace Go.Proofs.Ytfhjjfibblcklaa.PFnExactReadPolicy
open Go.RowKit Go.Proofs.YtfhjjfibblcklaaW.PrintWords Go.Proofs.YtfhjjfibblcklaaW.PrintLast Go.Proofs.YtfhjjfibblcklaaW.PrintMore Go.Proofs.YtfhjjfibblcklaaW.Z
open Kd
attribute [local go_sem] isS max2_int min2_int max_two min_two max_three min_three max_four min_four
set_option linter.unusedVariables false
set_option linter.unusedSimpArgs false
mutual
def spec_l10Read_cond.j0:Nat→List (S54)→Int→Bool→Int→Int→Int→Int→Int→Int→Option (Int×Int×Int×Int×Int×Int×Int×Bool)
  | 0,_,_,_,_,_,_,_,_,_=>none
  | k+1,q,O,U,x,y,z,A,W,X=>(spec_l10Cms.f).bind fun n=>(spec_l10Read_cond.l0 k n 1 q O U x y z A W X)
def spec_l10Read_cond.l0:Nat→List ByteArray→Int→List (S54)→Int→Bool→Int→Int→Int→Int→Int→Int→Option (Int×Int×Int×Int×Int×Int×Int×Bool)
  | 0,_,_,_,_,_,_,_,_,_,_,_=>none
  | k+1,Y,r,q,O,U,x,y,z,A,W,X=>if r<(Y.length:Int)then(if A=0 then(if 0≤r then((spec_l10Read_takes.f q O U 3 (rdOf ByteArray.empty Y r)).bind fun aa=>(if aa.1=true then(spec_l10Read_cond.l0 k Y (wrap64 (r+1)) q aa.2.1 aa.2.2 x y z r W X)else(spec_l10Read_cond.l0 k Y (wrap64 (r+1)) q aa.2.1 aa.2.2 x y z A W X)))else(none))else(spec_l10Read_cond.l0 k Y (wrap64 (r+1)) q O U x y z A W X))else((spec_l10Read_wide.f q O U).bind fun af=>(some (x,y,z,A,af.1,af.2.1,af.2.2.1,af.2.2.2)))
end
def spec_l10Read_cond.f (k:Nat) (s0_0:List (S54)) (s0_1:Int) (s0_2:Bool):Option (Int×Int×Int×Int×Int×Int×Int×Bool):=(spec_l10Read_wants.f s0_0 s0_1 s0_2 1 (⟨#[97,114,103]⟩ :ByteArray)).bind fun au=>((spec_l10Read_num.f s0_0 au.1 au.2).bind fun ag=>((spec_l10Read_takes.f s0_0 ag.2.1 ag.2.2 3 (⟨#[38]⟩ :ByteArray)).bind fun ab=>(if ab.1=true then((spec_l10Read_wide.f s0_0 ab.2.1 ab.2.2).bind fun ah=>(spec_l10Read_cond.j0 k s0_0 ah.2.2.1 ah.2.2.2 ag.1 ah.1 ah.2.1 0 0 0))else(spec_l10Read_cond.j0 k s0_0 ab.2.1 ab.2.2 ag.1 4294967295 4294967295 0 0 0))))
theorem q6x0 {P:Prop} (h:P:=by repeat(first|(with_reducible first|exact HI0.out|apply IsS35.alloc|apply IsS35.drewN|apply IsS35.drew|apply IsS35.set_1|apply IsS35.set_2)|exact HI0.out)):P:=h
theorem q6x1 {P:Prop} (h:P:=by repeat(first|(with_reducible first|exact HB.out|apply below_alloc|apply pw_below_drewN|apply below_drew1|refine below_set ?_ (IsS35.ge HI0.out))|exact HB.out)):P:=h
theorem q6x2 {P:Prop} (h:P:=by repeat(first|(with_reducible first|exact HI0.out|apply IsS35.alloc|apply IsS35.drewN|apply IsS35.drew|apply IsS35.set_1|apply IsS35.set_2|(apply IsS35.far;case hne=>exact(Aside0.out (by assumption))))|exact HI0.out)):P:=h
theorem q6x3 {P:Prop} (h:P:=by repeat(first|(with_reducible first|exact HB.out|apply below_alloc|apply pw_below_drewN|apply below_drew1|refine below_set ?_ (IsS35.ge HI0.out)|refine below_set ?_ (Aside0.out (by assumption)))|exact HB.out)):P:=h
set_option maxHeartbeats 8000000 in
set_option maxRecDepth 100000 in
theorem spec_l10Read_cond.calls (k:Nat) (g:Nat) (s0_0:List (S54)) (s0_1:Int) (s0_2:Bool) (r1:Int) (r2:Int) (r3:Int) (r4:Int) (r5:Int) (r6:Int) (r7:Int) (r8:Bool) (c w:World) (hI:IsS35 c w g s0_0 s0_1 s0_2) (hB:Below c.heap.size c w) (h:spec_l10Read_cond.f k s0_0 s0_1 s0_2=some (r1,r2,r3,r4,r5,r6,r7,r8)) :
 Calls Try.prog 32 #[.pointer (some ⟨g,0,none⟩)] w fun e w'=>e= .returned (.agg #[.int .i64 r1,.int .i64 r2,.int .i64 r3,.int .i64 r4,.int .i64 r5,.int .i64 r6])∧IsS35 c w' g s0_0 r7 r8∧Below c.heap.size c w'∧KeepBut w w' g none:=by
 have hu66:=Try.underlying66;have hu64:=Try.underlying64;have HI0:=aM hI;have HK:=aM (KeepBut.refl w g none);have HL:=aM hB.size;clear hI;have HW0:=aM hB.size;have HB:=aM hB;clear hB
 unfold spec_l10Read_cond.f at h;have H:=h
 clear h;replace H:=bE H;obtain⟨⟨av,aw⟩,a5,H⟩:=H;(try dsimp only at H);replace H:=bE H;obtain⟨⟨s,ai,aj⟩,a6,H⟩:=H;(try dsimp only at H);replace H:=bE H;obtain⟨⟨ax,ap,aq⟩,a7,H⟩:=H;(try dsimp only at H);have HC5:=aM H;clear H;go_enter Try.func32,Try.ntmps32
 go_upto_if 13 with(first|((with_reducible refine gN 2 ?_);refine boxZ 2 #[.int .i64 0,.int .i64 0,.int .i64 0,.int .i64 0,.int .i64 0,.int .i64 0] 66 ?_;intro ac hg bs hbox hb;replace HB:=aM (below_step q6x1 hb);have a:=aM hbox;have GW222:=gK (w:=w) hg;have GE222:=gW HW0 hg;replace HK:=aM (KeepBut.trans (cK:KeepBut w _ g none) (KeepBut.of_below hb g none) (.inl rfl));have a8:=aM ((by rw[hg];exact Nat.ne_of_lt (IsS35.lt (show IsS35 c _ g s0_0 s0_1 s0_2 from q6x0)):g≠ac));have p:=aM ((by rw[hg];exact Nat.ne_of_gt (IsS35.lt (show IsS35 c _ g s0_0 s0_1 s0_2 from q6x0)):ac≠g));replace HI0:=aM (IsS35.below q6x0 hb);clear hb hbox hg)|((with_reducible refine gF 10 ?_);refine gX (some 7) Try.func10 (spec_l10Read_wants.calls g s0_0 s0_1 s0_2 1 (⟨#[97,114,103]⟩ :ByteArray) av aw c _ q6x2 q6x3 a5.out) ?_;rintro bu ⟨hi,hb,hk⟩;replace a:=bK hk a p.out;replace HK:=tK (w:=w) hk;replace HB:=aM hb;replace HI0:=aM hi;(try clear hb);(try clear hk);(try clear hi))|((with_reducible refine gF 11 ?_);refine gX (some 9) Try.func11 (spec_l10Read_num.calls g s0_0 av aw s ai aj c _ q6x2 q6x3 a6.out) ?_;rintro bv ⟨hi,hb,hk⟩;replace a:=bK hk a p.out;replace HK:=tK (w:=w) hk;replace HB:=aM hb;replace HI0:=aM hi;(try clear hb);(try clear hk);(try clear hi))|((with_reducible refine gN 3 ?_);refine boxZ 3 #[.int .i64 0,.int .i64 0,.int .i64 0,.int .i64 0,.int .i64 0,.int .i64 0] 66 ?_;intro ad hg bw hbox hb;replace HB:=aM (below_step q6x3 hb);have b:=aM hbox;have GW228:=gK (w:=w) hg;have GE228:=gW HW0 hg;replace HK:=aM (KeepBut.trans (cK:KeepBut w _ g none) (KeepBut.of_below hb g none) (.inl rfl));have D:=nL hg a;have E:=nG hg a;replace a:=kB a hb;have G:=aM ((by rw[hg];exact Nat.ne_of_lt (IsS35.lt (show IsS35 c _ g s0_0 ai aj from q6x2)):g≠ad));have j:=aM ((by rw[hg];exact Nat.ne_of_gt (IsS35.lt (show IsS35 c _ g s0_0 ai aj from q6x2)):ad≠g));replace HI0:=aM (IsS35.below q6x2 hb);clear hb hbox hg;have hnb10:=E.out;have hnc10:=D.out;have hnb11:=j.out;have hnc11:=G.out;obtain⟨ay,az,aA,aB,aC,aD,aE,aF,aG,aH,aI,aJ⟩:=cz6 b)|((with_reducible refine gF 27 ?_);refine gX (some 13) Try.func27 (spec_l10Read_takes.calls g s0_0 ai aj 3 (⟨#[38]⟩ :ByteArray) ax ap aq c _ q6x2 q6x3 a7.out) ?_;rintro bx ⟨hi,hb,hk⟩;replace a:=bK hk a p.out;replace b:=aM (KeepBut.blk hk (g':=ad) (o:= .cells #[.int .i64 s,.int .i64 4294967295,.int .i64 4294967295,.int .i64 0,.int .i64 0,.int .i64 0] 66 (0,0)) (kS b _) j.out (by simp));replace HK:=tK (w:=w) hk;replace HB:=aM hb;replace HI0:=aM hi;(try clear hb);(try clear hk);(try clear hi)))
 (try simp only[Act.put,List.setIfInBounds_toArray,List.set_cons_zero,List.set_cons_succ])
 go_cut [] (fun wc=> ∃ (kq:Nat) (ak:Int) (al:Bool) (I:Int) (J:Int),Aside0 (spec_l10Read_cond.j0 kq s0_0 ak al s I J 0 0 0=some (r1,r2,r3,r4,r5,r6,r7,r8))∧Aside0 (kq≤k)∧Aside0 (wc.heap[ac]?=some (.cells #[.int .i64 0,.int .i64 0,.int .i64 0,.int .i64 0,.int .i64 0,.int .i64 0] 66 (0,0)))∧Aside0 (wc.heap[ad]?=some (.cells #[.int .i64 s,.int .i64 I,.int .i64 J,.int .i64 0,.int .i64 0,.int .i64 0] 66 (0,0)))∧Aside0 (IsS35 c wc g s0_0 ak al)∧Aside0 (KeepBut w wc g none)∧Aside0 (Below c.heap.size c wc))
 case first=>
  have H:=HC5.out;clear HC5;by_cases L:ax=true
  ·subst L;replace H:=iT H;replace H:=bE H;obtain⟨⟨aK,aL,aN,aO⟩,a9,H⟩:=H;(try dsimp only at H);have H':=aM H;clear H
   go_wp2_with (first|((with_reducible refine gF 60 ?_);refine gX (some 15) Try.func60 (spec_l10Read_wide.calls g s0_0 ap aq aK aL aN aO c _ q6x2 q6x3 a9.out) ?_;rintro bz ⟨hi,hb,hk⟩;replace a:=bK hk a p.out;replace b:=bK hk b j.out;replace HK:=tK (w:=w) hk;replace HB:=aM hb;replace HI0:=aM hi;(try clear hb);(try clear hk);(try clear hi);have hnb17:=E.out;have hnc17:=D.out;have hnb18:=j.out;have hnc18:=G.out;obtain⟨aP,aQ,aR,aS,aT,aU,aV,aW,aX,aY,aZ,a0⟩:=cz6 b))
   go_meet
   case rel=>exact⟨_,(aN),(aO),(aK),(aL),H',⟨oL⟩,⟨mK a⟩,⟨kS b _⟩,⟨q6x2⟩,⟨cK⟩,⟨q6x3⟩⟩
  ·replace L:=Bool.eq_false_iff.mpr L;subst L;replace H:=iF H;have H':=aM H;clear H;go_wp2;go_meet
   case rel=>exact⟨_,(ap),(aq),(4294967295),(4294967295),H',⟨oL⟩,⟨mK a⟩,⟨mK b⟩,⟨q6x2⟩,⟨cK⟩,⟨q6x3⟩⟩
 case rest=>
  clear HC5;(try clear L);(try clear ay az aA aB aC aD);(try clear aP aQ aR aS aT aU);(try clear aE aF aG aH aI aJ);(try clear aV aW aX aY aZ a0);obtain⟨kq,ak,al,I,J,HA,HJ4,a,b,HI0,HK,HB⟩:=hcut
  cases kq with
  | zero=>exact absurd HA.out (by simp[spec_l10Read_cond.j0])
  | succ kj4=>
   have H:=HA.out;clear HA;simp only[spec_l10Read_cond.j0]at H;replace H:=bE H;obtain⟨n,ba,H⟩:=H;have H':=aM H;clear H
   go_wp2_with (first|((with_reducible refine gF 61 ?_);refine gY (some 17) Try.func61 (spec_l10Cms.calls ba.out) ?_;rintro bb bA ⟨a1,hb⟩;have bd:=aM (R_lower a1 (keep_size (w:=w) (g:=g) (row:=none) cK));replace a:=kB a hb;replace b:=kB b hb;replace HK:=aM (KeepBut.trans (cK:KeepBut w _ g none) (KeepBut.of_below hb g none) (.inl rfl));replace HB:=aM (below_step q6x3 hb);replace HI0:=aM (IsS35.below q6x2 hb);(try clear hb);(try clear a1)))
   go_loopg [5] kj4 (fun kq be w'=> ∃ (d:Int) (l:Int) (m:Bool) (t:Int),be= .int .i64 d∧Aside0 (spec_l10Read_cond.l0 kq n d s0_0 l m s I J t 0 0=some (r1,r2,r3,r4,r5,r6,r7,r8))∧Aside0 (kq≤kj4)∧Aside0 (Kd.R Kd.string 9 w' w.heap.size (fun _=>True) bb n)∧Aside0 (w'.heap[ac]?=some (.cells #[.int .i64 0,.int .i64 0,.int .i64 0,.int .i64 0,.int .i64 0,.int .i64 0] 66 (0,0)))∧Aside0 (w'.heap[ad]?=some (.cells #[.int .i64 s,.int .i64 I,.int .i64 J,.int .i64 t,.int .i64 0,.int .i64 0] 66 (0,0)))∧Aside0 (IsS35 c w' g s0_0 l m)∧Aside0 (KeepBut w w' g none)∧Aside0 (Below c.heap.size c w'))
   case atStart=>exact⟨(1),(ak),(al),(0),rS,H',⟨Nat.le_refl _⟩,⟨mR bd⟩,⟨mK a⟩,⟨mK b⟩,⟨q6x2⟩,⟨cK⟩,⟨q6x3⟩⟩
   case round=>
    clear H';(try clear L);(try clear ay az aA aB aC aD);(try clear aP aQ aR aS aT aU);(try clear aE aF aG aH aI aJ);(try clear aV aW aX aY aZ a0);obtain⟨d,l,m,t,rfl,HA,HK2,i,a,b,HI0,HK,HB⟩:=hrel
    cases gk with
    | zero=>exact absurd HA.out (by simp[spec_l10Read_cond.l0])
    | succ k2=>
     have H:=HA.out;clear HA;simp only[spec_l10Read_cond.l0]at H;by_cases M:d<(n.length:Int)
     ·rw[if_pos M]at H;have bf:=decide_eq_true M;clear M;by_cases ae:t=0
      ·rw[if_pos ae]at H;obtain⟨bg,bh⟩:=eT ae;clear ae;replace H:=gD H;obtain⟨bB,H⟩:=H;replace H:=bE H;obtain⟨⟨bi,am,an⟩,a2,H⟩:=H;(try dsimp only at H);by_cases ao:bi=true
       ·subst ao;replace H:=iT H;have H':=aM H;clear H;obtain⟨bC,bD,bj⟩:=R_slice i.out;subst bj;have hnb28:=E.out;have hnc28:=D.out;have hnb29:=j.out;have hnc29:=G.out;obtain⟨bF,bG,bH,bI,bJ,bL,bM,bN,bO,bP,bQ,bR⟩:=cz6 b;have u:0≤(d:Int):=dA;have v:d<(n.length:Int):=dA;obtain⟨bk,ar,bl⟩:=at_string (R_reads' i.out).2.2 d u v;cases ar;replace u:=eq_true u;replace v:=eq_true v
        go_wp2_with (first|(go_at_call 27;(with_reducible refine(spec_l10Read_takes.calls g s0_0 l m 3 (rdOf ByteArray.empty n d) true am an c _ ?side1 ?side2 a2.out).mono ?_);(case side1=>exact q6x2);(case side2=>exact q6x3);rintro e bS ⟨rfl,hi,hb,hk⟩;replace i:=aM (R_mono (R_keep (IsS35.apart (show IsS35 c _ g s0_0 l m from q6x2) (mR i) (by decide)) hk (fun _ h=>h.2)) (fun _ h=>h.1));replace a:=bK hk a p.out;replace b:=bK hk b j.out;replace HK:=tK (w:=w) hk;replace HB:=aM hb;replace HI0:=aM hi;(try clear hb);(try clear hk);(try clear hi);obtain⟨bT,bU,bV,bW,bX,bY,bZ,b0,b1,b5,b8,b9⟩:=cz6 b))
        go_roundg k2
        case measure=>have:=HJ4.out;have:=HK2.out;omega
        case rel=>exact⟨(wrap64 (d+1)),(am),(an),(d),rS,H',⟨by have:=HJ4.out;have:=HK2.out;omega⟩,⟨fR (R_types i.out b.out (by decide)) (fun _ hk=>trivial)⟩,⟨mK a⟩,⟨kS b _⟩,⟨q6x2⟩,⟨cK⟩,⟨q6x3⟩⟩
       ·replace ao:=Bool.eq_false_iff.mpr ao;subst ao;replace H:=iF H;have H':=aM H;clear H;obtain⟨ca,cb,bm⟩:=R_slice i.out;subst bm;have hnb34:=E.out;have hnc34:=D.out;have hnb35:=j.out;have hnc35:=G.out;obtain⟨cc,cd,ce,cf,cg,ch,ci,cj,ck,cl,cm,cn⟩:=cz6 b;have u:0≤(d:Int):=dA;have v:d<(n.length:Int):=dA;obtain⟨bk,ar,bl⟩:=at_string (R_reads' i.out).2.2 d u v;cases ar;replace u:=eq_true u;replace v:=eq_true v
        go_wp2_with (first|(go_at_call 27;(with_reducible refine(spec_l10Read_takes.calls g s0_0 l m 3 (rdOf ByteArray.empty n d) false am an c _ ?side1 ?side2 a2.out).mono ?_);(case side1=>exact q6x2);(case side2=>exact q6x3);rintro e co ⟨rfl,hi,hb,hk⟩;replace i:=aM (R_mono (R_keep (IsS35.apart (show IsS35 c _ g s0_0 l m from q6x2) (mR i) (by decide)) hk (fun _ h=>h.2)) (fun _ h=>h.1));replace a:=bK hk a p.out;replace b:=bK hk b j.out;replace HK:=tK (w:=w) hk;replace HB:=aM hb;replace HI0:=aM hi;(try clear hb);(try clear hk);(try clear hi)))
        go_roundg k2
        case measure=>have:=HJ4.out;have:=HK2.out;omega
        case rel=>exact⟨(wrap64 (d+1)),(am),(an),(t),rS,H',⟨by have:=HJ4.out;have:=HK2.out;omega⟩,⟨mR i⟩,⟨mK a⟩,⟨mK b⟩,⟨q6x2⟩,⟨cK⟩,⟨q6x3⟩⟩
      ·rw[if_neg ae]at H;obtain⟨bg,bh⟩:=eF ae;have H':=aM H;clear H;obtain⟨cp,cq,bn⟩:=R_slice i.out;subst bn;have hnb39:=E.out;have hnc39:=D.out;have hnb40:=j.out;have hnc40:=G.out;obtain⟨cr,cs,ct,cu,cv,cw,cx,cy,cz,cA,cD,cE⟩:=cz6 b;go_wp2;go_roundg k2
       case measure=>have:=HJ4.out;have:=HK2.out;omega
       case rel=>exact⟨(wrap64 (d+1)),(l),(m),(t),rS,H',⟨by have:=HJ4.out;have:=HK2.out;omega⟩,⟨mR i⟩,⟨mK a⟩,⟨mK b⟩,⟨q6x2⟩,⟨cK⟩,⟨q6x3⟩⟩
     ·rw[if_neg M]at H;have bf:=decide_eq_false M;clear M;replace H:=bE H;obtain⟨⟨a3,a4,bo,bp⟩,bq,H⟩:=H;(try dsimp only at H);simp only[Option.some.injEq,Prod.mk.injEq]at H;obtain⟨rfl,rfl,rfl,rfl,rfl,rfl,rfl,rfl⟩:=H;obtain⟨cF,cG,br⟩:=R_slice i.out;subst br
      go_wp2_with (first|((with_reducible refine gF 60 ?_);refine gX (some 38) Try.func60 (spec_l10Read_wide.calls g s0_0 l m a3 a4 bo bp c _ q6x2 q6x3 bq.out) ?_;rintro cI ⟨hi,hb,hk⟩;replace i:=aM (R_mono (R_keep (IsS35.apart (show IsS35 c _ g s0_0 l m from q6x2) (mR i) (by decide)) hk (fun _ h=>h.2)) (fun _ h=>h.1));replace a:=bK hk a p.out;replace b:=bK hk b j.out;replace HK:=tK (w:=w) hk;replace HB:=aM hb;replace HI0:=aM hi;(try clear hb);(try clear hk);(try clear hi);have hnb45:=E.out;have hnc45:=D.out;have hnb46:=j.out;have hnc46:=G.out;obtain⟨cJ,cL,cM,cN,cO,cP,cQ,cR,cS,cT,cU,cV⟩:=cz6 b;have hnb48:=p.out;have hnc48:=a8.out;obtain⟨cW,cX,cY,cZ,c0,c1,da,db,dc,dd,de,df⟩:=cz6 a))
      refine bodyPost_ret (results_cell_row rfl _ _ ac 66 #[.int .i64 s,.int .i64 I,.int .i64 J,.int .i64 t,.int .i64 a3,.int .i64 a4] (0,0) _ rfl (kS a _) Try.underlying66 rfl (by kernel_rfl)) rfl ?_
      exact⟨rE,q6x2,q6x3,cK⟩
end Go.Proofs.Ytfhjjfibblcklaa.PFnExactReadPolicy
