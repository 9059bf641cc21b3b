import Derived.Test.YtfhjjfibblcklaaPFnExactReadPolicyy0
import Derived.Test.YtfhjjfibblcklaaPFnExactReadPolicyy3
import Derived.Test.YtfhjjfibblcklaaPFnExactReadPolicyy4
namespace Go.Proofs.Ytfhjjfibblcklaa.PFnExactReadPolicy
open Go.RowKit Go.Proofs.YtfhjjfibblcklaaW.PrintWords Go.Proofs.YtfhjjfibblcklaaW.PrintLast Go.Proofs.YtfhjjfibblcklaaW.PrintMore Go.Proofs.YtfhjjfibblcklaaW.Z
open Kd
attribute [local go_sem] isS max2_int min2_int max_two min_two max_three min_three max_four min_four
set_option linter.unusedVariables false
set_option linter.unusedSimpArgs false
mutual
def spec_l10Read_nums.l0:Nat→List Int→List (S54)→Int→Bool→Option (List Int×Int×Bool)
  | 0,_,_,_,_=>none
  | k+1,m,l,o,p=>if p=true then(some (m,o,p))else((spec_l10Read_hasNum.f l o p).bind fun O=>(if O.1=true then((spec_l10Read_num.f l O.2.1 O.2.2).bind fun aw=>(spec_l10Read_nums.j1 k m aw.1 l aw.2.1 aw.2.2))else((spec_l10Read_name.f l O.2.1 O.2.2).bind fun ax=>((spec_CallNumber.f k ax.1).bind fun ay=>(spec_l10Read_nums.j1 k m ay l ax.2.1 ax.2.2)))))
def spec_l10Read_nums.j1:Nat→List Int→Int→List (S54)→Int→Bool→Option (List Int×Int×Bool)
  | 0,_,_,_,_,_=>none
  | k+1,m,q,l,o,p=>if q<0 then(spec_l10Read_nums.j2 k m q true l o p)else((spec_l09In.f k m q).bind fun az=>(spec_l10Read_nums.j2 k m q az l o p))
def spec_l10Read_nums.j2:Nat→List Int→Int→Bool→List (S54)→Int→Bool→Option (List Int×Int×Bool)
  | 0,_,_,_,_,_,_=>none
  | k+1,m,q,a5,l,o,p=>if a5=true then(spec_l10Read_nums.j3 k m q l o true)else(spec_l10Read_nums.j3 k m q l o p)
def spec_l10Read_nums.j3:Nat→List Int→Int→List (S54)→Int→Bool→Option (List Int×Int×Bool)
  | 0,_,_,_,_,_=>none
  | k+1,m,q,l,o,p=>(spec_l10Put.f k m q).bind fun J=>((spec_l10Read_takes.f l o p 3 (⟨#[44]⟩ :ByteArray)).bind fun U=>(if U.1=true then(spec_l10Read_nums.l0 k J l U.2.1 U.2.2)else(some (J,U.2.1,U.2.2))))
end
def spec_l10Read_nums.f (k:Nat) (s0_0:List (S54)) (s0_1:Int) (s0_2:Bool):Option (List Int×Int×Bool):=(some (([] :List Int):List Int)).bind fun ah=>((spec_l10Read_takes.f s0_0 s0_1 s0_2 1 (⟨#[97,110,121]⟩ :ByteArray)).bind fun W=>(if W.1=true then(some (ah,W.2.1,W.2.2))else(spec_l10Read_nums.l0 k ah s0_0 W.2.1 W.2.2)))
theorem q5x0 {P:Prop} (h:P:=by repeat(first|(with_reducible first|exact HI0.out|apply IsS35.alloc|apply IsS35.drewN|apply IsS35.drew|apply IsS35.set_1|apply IsS35.set_2)|exact HI0.out)):P:=h
theorem q5x1 {P:Prop} (h:P:=by repeat(first|(with_reducible first|exact HB.out|apply below_alloc|apply pw_below_drewN|apply below_drew1|refine below_set ?_ (IsS35.ge HI0.out))|exact HB.out)):P:=h
set_option maxHeartbeats 8000000 in
set_option maxRecDepth 100000 in
theorem spec_l10Read_nums.calls (k:Nat) (g:Nat) (s0_0:List (S54)) (s0_1:Int) (s0_2:Bool) (r1:List Int) (r2:Int) (r3:Bool) (a w:World) (hI:IsS35 a w g s0_0 s0_1 s0_2) (hB:Below a.heap.size a w) (h:spec_l10Read_nums.f k s0_0 s0_1 s0_2=some (r1,r2,r3)) :
 Calls Try.prog 31 #[.pointer (some ⟨g,0,none⟩)] w fun e w'=> ∃ v0_:Value,e= .returned (v0_)∧Kd.R (Kd.int .i64) 3 w' w.heap.size (fun _=>True) v0_ r1∧IsS35 a w' g s0_0 r2 r3∧Below a.heap.size a w'∧KeepBut w w' g none:=by
 have HI0:=aM hI;have HK:=aM (KeepBut.refl w g none);have HL:=aM hB.size;clear hI;have HW0:=aM hB.size;have HB:=aM hB;clear hB
 unfold spec_l10Read_nums.f at h;have H:=h
 clear h;replace H:=nE H;obtain⟨ah,ai,H⟩:=H;replace H:=bE H;obtain⟨⟨a6,aA,aB⟩,X,H⟩:=H;(try dsimp only at H);by_cases s:a6=true
 ·subst s;replace H:=iT H;simp only[Option.some.injEq,Prod.mk.injEq]at H;obtain⟨rfl,rfl,rfl⟩:=H;go_enter Try.func31,Try.ntmps31
  go_wp2_with (first|((with_reducible refine gN 5 ?_);refine R_lit (Kd.int .i64) _ 3 ?hg (N:=5) ?hd (xs:=([] :List Int)) (inner:=[]) (ok:=fun _=>True) (okp:=fun _=>True) ?hr ?hp (fun _ hk=>hk) trivial (Below.refl _ _) (Nat.le_refl _) (by simp) ?_;(case hd=>rfl);(case hg=>rfl);(case hr=>exact rG);(case hp=>exact(Reps.none _ _));intro a7 bC Y hb hg_ hnew_;clear hg_ hnew_;(first|rw[← ai.out]at Y|(simp only[Int.reduceToNat]at Y;rw[← ai.out]at Y));have x:=aM (R_lower Y (keep_size (w:=w) (g:=g) (row:=none) cK));replace HK:=aM (KeepBut.trans (cK:KeepBut w _ g none) (KeepBut.of_below hb g none) (.inl rfl));replace HB:=aM (below_step q5x1 hb);replace HI0:=aM (IsS35.below q5x0 hb);clear hb Y)|((with_reducible refine gF 27 ?_);refine gX (some 7) Try.func27 (spec_l10Read_takes.calls g s0_0 s0_1 s0_2 1 (⟨#[97,110,121]⟩ :ByteArray) true aA aB a _ q5x0 q5x1 X.out) ?_;rintro a8 ⟨hi,hb,hk⟩;replace x:=aM (R_mono (R_keep (IsS35.apart (show IsS35 a _ g s0_0 s0_1 s0_2 from q5x0) (mR x) (by decide)) hk (fun _ h=>h.2)) (fun _ h=>h.1));replace HK:=tK (w:=w) hk;replace HB:=aM hb;replace HI0:=aM hi;(try clear hb);(try clear hk);(try clear hi)))
  go_ret;exact⟨_,rE,mR x,q5x0,q5x1,cK⟩
 ·replace s:=Bool.eq_false_iff.mpr s;subst s;replace H:=iF H;have H':=aM H;clear H;go_enter Try.func31,Try.ntmps31
  go_wp2_with (first|((with_reducible refine gN 5 ?_);refine R_lit (Kd.int .i64) _ 3 ?hg (N:=5) ?hd (xs:=([] :List Int)) (inner:=[]) (ok:=fun _=>True) (okp:=fun _=>True) ?hr ?hp (fun _ hk=>hk) trivial (Below.refl _ _) (Nat.le_refl _) (by simp) ?_;(case hd=>rfl);(case hg=>rfl);(case hr=>exact rG);(case hp=>exact(Reps.none _ _));intro a7 a9 aa hb hg_ hnew_;clear hg_ hnew_;(first|rw[← ai.out]at aa|(simp only[Int.reduceToNat]at aa;rw[← ai.out]at aa));have x:=aM (R_lower aa (keep_size (w:=w) (g:=g) (row:=none) cK));replace HK:=aM (KeepBut.trans (cK:KeepBut w _ g none) (KeepBut.of_below hb g none) (.inl rfl));replace HB:=aM (below_step q5x1 hb);replace HI0:=aM (IsS35.below q5x0 hb);clear hb aa)|((with_reducible refine gF 27 ?_);refine gX (some 7) Try.func27 (spec_l10Read_takes.calls g s0_0 s0_1 s0_2 1 (⟨#[97,110,121]⟩ :ByteArray) false aA aB a _ q5x0 q5x1 X.out) ?_;rintro ba ⟨hi,hb,hk⟩;replace x:=aM (R_mono (R_keep (IsS35.apart (show IsS35 a _ g s0_0 s0_1 s0_2 from q5x0) (mR x) (by decide)) hk (fun _ h=>h.2)) (fun _ h=>h.1));replace HK:=tK (w:=w) hk;replace HB:=aM hb;replace HI0:=aM hi;(try clear hb);(try clear hk);(try clear hi)))
  (try go_simp);go_loopg [3] k (fun kq bb w'=> ∃ (i:List Int) (ab:Int) (aj:Bool),Aside0 (spec_l10Read_nums.l0 kq i s0_0 ab aj=some (r1,r2,r3))∧Aside0 (kq≤k)∧Aside0 (Kd.R (Kd.int .i64) 3 w' w.heap.size (fun _=>True) bb i)∧Aside0 (IsS35 a w' g s0_0 ab aj)∧Aside0 (KeepBut w w' g none)∧Aside0 (Below a.heap.size a w'))
  case atStart=>exact⟨(ah),(aA),(aB),H',⟨Nat.le_refl _⟩,⟨mR x⟩,⟨q5x0⟩,⟨cK⟩,⟨q5x1⟩⟩
  case round=>
   clear H';(try clear s);obtain⟨i,ab,aj,HA,HK1,c,HI0,HK,HB⟩:=hrel
   cases gk with
   | zero=>exact absurd HA.out (by simp[spec_l10Read_nums.l0])
   | succ k1=>
    have H:=HA.out;clear HA;simp only[spec_l10Read_nums.l0]at H;by_cases y:aj=true
    ·subst y;replace H:=iT H;simp only[Option.some.injEq,Prod.mk.injEq]at H;obtain⟨rfl,rfl,rfl⟩:=H;obtain⟨ASz11_0,cSz11_0,HGz11,hgz11,HSz11_0⟩:=HI0.out;have ak:=cellS35_0 HGz11;have al:=cellS35_1 HGz11;have aC:=cellS35_2 HGz11;have am:=blk_frozen HGz11 1;have aD:=blk_frozen HGz11 2;clear HGz11 hgz11;go_wp2;go_ret;exact⟨_,rE,mR c,q5x0,q5x1,cK⟩
    ·replace y:=Bool.eq_false_iff.mpr y;subst y;replace H:=iF H;replace H:=bE H;obtain⟨⟨aR,ac,ad⟩,bd,H⟩:=H;(try dsimp only at H);have HC13:=aM H;clear H;obtain⟨ASz14_0,cSz14_0,HGz14,hgz14,HSz14_0⟩:=HI0.out;have aE:=cellS35_0 HGz14;have aF:=cellS35_1 HGz14;have aG:=cellS35_2 HGz14;have aH:=blk_frozen HGz14 1;have aI:=blk_frozen HGz14 2;clear HGz14 hgz14
     go_upto_if 15 with(first|((with_reducible refine gF 28 ?_);refine gX (some 15) Try.func28 (spec_l10Read_hasNum.calls g s0_0 ab false aR ac ad a _ q5x0 q5x1 bd.out) ?_;rintro bD ⟨hi,hb,hk⟩;replace c:=aM (R_mono (R_keep (IsS35.apart (show IsS35 a _ g s0_0 ab false from q5x0) (mR c) (by decide)) hk (fun _ h=>h.2)) (fun _ h=>h.1));replace HK:=tK (w:=w) hk;replace HB:=aM hb;replace HI0:=aM hi;(try clear hb);(try clear hk);(try clear hi)))
     (try simp only[Act.put,List.setIfInBounds_toArray,List.set_cons_zero,List.set_cons_succ])
     go_cut [4] (fun be wc=> ∃ (kq:Nat) (t:Int) (n:Int) (L:Bool),be= .int .i64 t∧Aside0 (spec_l10Read_nums.j1 kq i t s0_0 n L=some (r1,r2,r3))∧Aside0 (kq≤k1)∧Aside0 (Kd.R (Kd.int .i64) 3 wc w.heap.size (fun _=>True) u3 i)∧Aside0 (IsS35 a wc g s0_0 n L)∧Aside0 (KeepBut w wc g none)∧Aside0 (Below a.heap.size a wc))
     case first=>
      have H:=HC13.out;clear HC13;by_cases z:aR=true
      ·subst z;replace H:=iT H;replace H:=bE H;obtain⟨⟨aS,aT,aU⟩,bf,H⟩:=H;(try dsimp only at H);have H':=aM H;clear H
       go_wp2_with (first|((with_reducible refine gF 11 ?_);refine gX (some 17) Try.func11 (spec_l10Read_num.calls g s0_0 ac ad aS aT aU a _ q5x0 q5x1 bf.out) ?_;rintro bF ⟨hi,hb,hk⟩;replace c:=aM (R_mono (R_keep (IsS35.apart (show IsS35 a _ g s0_0 ac ad from q5x0) (mR c) (by decide)) hk (fun _ h=>h.2)) (fun _ h=>h.1));replace HK:=tK (w:=w) hk;replace HB:=aM hb;replace HI0:=aM hi;(try clear hb);(try clear hk);(try clear hi)))
       go_meet
       case rel=>exact⟨_,(aS),(aT),(aU),rS,H',⟨by have:=HK1.out;first|omega|exact Nat.le_refl _⟩,⟨mR c⟩,⟨q5x0⟩,⟨cK⟩,⟨q5x1⟩⟩
      ·replace z:=Bool.eq_false_iff.mpr z;subst z;replace H:=iF H;replace H:=bE H;obtain⟨⟨bg,aV,aW⟩,bh,H⟩:=H;(try dsimp only at H);replace H:=bE H;obtain⟨ay,bi,H⟩:=H;have H':=aM H;clear H
       go_wp2_with (first|((with_reducible refine gF 29 ?_);refine gX (some 19) Try.func29 (spec_l10Read_name.calls g s0_0 ac ad bg aV aW a _ q5x0 q5x1 bh.out) ?_;rintro bG ⟨hi,hb,hk⟩;replace c:=aM (R_mono (R_keep (IsS35.apart (show IsS35 a _ g s0_0 ac ad from q5x0) (mR c) (by decide)) hk (fun _ h=>h.2)) (fun _ h=>h.1));replace HK:=tK (w:=w) hk;replace HB:=aM hb;replace HI0:=aM hi;(try clear hb);(try clear hk);(try clear hi))|((with_reducible refine gF 57 ?_);refine gX (some 20) Try.func57 (spec_CallNumber.calls bi.out) ?_;intro bH hb;replace c:=rB c hb;replace HK:=aM (KeepBut.trans (cK:KeepBut w _ g none) (KeepBut.of_below hb g none) (.inl rfl));replace HB:=aM (below_step q5x1 hb);replace HI0:=aM (IsS35.below q5x0 hb);(try clear hb)))
       go_meet
       case rel=>exact⟨_,(ay),(aV),(aW),rS,H',⟨by have:=HK1.out;first|omega|exact Nat.le_refl _⟩,⟨mR c⟩,⟨q5x0⟩,⟨cK⟩,⟨q5x1⟩⟩
     case rest=>
      clear HC13;(try clear s);(try clear y);(try clear z);(try clear ak al aC);(try clear aE aF aG);(try clear am aD);(try clear aH aI);obtain⟨kq,t,n,L,rfl,HA,HJ12,c,HI0,HK,HB⟩:=hcut
      cases kq with
      | zero=>exact absurd HA.out (by simp[spec_l10Read_nums.j1])
      | succ kj12=>
       have H:=HA.out;clear HA;simp only[spec_l10Read_nums.j1]at H;have HC23:=aM H;clear H
       go_upto_region 9 with(fail)
       go_cut [27] (fun bj wc=> ∃ (kq:Nat) (an:Bool),bj= .bool an∧Aside0 (spec_l10Read_nums.j2 kq i t an s0_0 n L=some (r1,r2,r3))∧Aside0 (kq≤kj12)∧Aside0 (Kd.R (Kd.int .i64) 3 wc w.heap.size (fun _=>True) u3 i)∧Aside0 (IsS35 a wc g s0_0 n L)∧Aside0 (KeepBut w wc g none)∧Aside0 (Below a.heap.size a wc))
       case first=>
        have H:=HC23.out;clear HC23;by_cases u:t<0
        ·rw[if_pos u]at H;have A:=decide_eq_true u;clear u
         (first|rw[A]|(simp only[i64_w,i32_w];rw[A])|skip)
         have H':=aM H;clear H;go_wp2;go_meet
         case rel=>exact⟨_,(true),rS,H',⟨by have:=HK1.out;have:=HJ12.out;first|omega|exact Nat.le_refl _⟩,⟨mR c⟩,⟨q5x0⟩,⟨cK⟩,⟨q5x1⟩⟩
        ·rw[if_neg u]at H;have A:=decide_eq_false u;clear u
         (first|rw[A]|(simp only[i64_w,i32_w];rw[A])|skip)
         replace H:=bE H;obtain⟨az,bk,H⟩:=H;have H':=aM H;clear H;obtain⟨bI,bJ,bl⟩:=R_slice c.out;subst bl
         go_wp2_with (first|(go_at_call 58;(with_reducible refine(spec_l09In.calls bk.out ?side1 ?side2).mono ?_);(case side1=>exact rX c);(case side2=>exact rY c);rintro e w' ⟨rfl,⟨nd,rfl⟩⟩))
         go_meet
         case rel=>exact⟨_,(az),rS,H',⟨by have:=HK1.out;have:=HJ12.out;first|omega|exact Nat.le_refl _⟩,⟨mR c⟩,⟨q5x0⟩,⟨cK⟩,⟨q5x1⟩⟩
       case rest=>
        clear HC23;(try clear s);(try clear y);(try clear z);(try clear u);(try clear A);(try clear ak al aC);(try clear aE aF aG);(try clear am aD);(try clear aH aI);obtain⟨kq,an,rfl,HA,HJ22,c,HI0,HK,HB⟩:=hcut
        cases kq with
        | zero=>exact absurd HA.out (by simp[spec_l10Read_nums.j2])
        | succ kj22=>
         have H:=HA.out;clear HA;simp only[spec_l10Read_nums.j2]at H;have HC27:=aM H;clear H
         go_upto_if 27 with(fail)
         go_cut [] (fun wc=> ∃ (kq:Nat) (D:Bool),Aside0 (spec_l10Read_nums.j3 kq i t s0_0 n D=some (r1,r2,r3))∧Aside0 (kq≤kj22)∧Aside0 (Kd.R (Kd.int .i64) 3 wc w.heap.size (fun _=>True) u3 i)∧Aside0 (IsS35 a wc g s0_0 n D)∧Aside0 (KeepBut w wc g none)∧Aside0 (Below a.heap.size a wc))
         case first=>
          have H:=HC27.out;clear HC27;by_cases ae:an=true
          ·subst ae;replace H:=iT H;have H':=aM H;clear H;obtain⟨ASz29_0,cSz29_0,HGz29,hgz29,HSz29_0⟩:=HI0.out;have bm:=cellS35_0 HGz29;have bn:=cellS35_1 HGz29;have bo:=cellS35_2 HGz29;have bp:=blk_frozen HGz29 1;have bq:=blk_frozen HGz29 2;clear HGz29 hgz29;go_wp2;go_meet
           case rel=>exact⟨_,(true),H',⟨by have:=HK1.out;have:=HJ12.out;have:=HJ22.out;first|omega|exact Nat.le_refl _⟩,⟨fR (IsS35.apart HI0.out c.out (by decide)) (fun _ hk=>trivial)⟩,⟨q5x0⟩,⟨cK⟩,⟨q5x1⟩⟩
          ·replace ae:=Bool.eq_false_iff.mpr ae;subst ae;replace H:=iF H;have H':=aM H;clear H;go_wp2;go_meet
           case rel=>exact⟨_,(L),H',⟨by have:=HK1.out;have:=HJ12.out;have:=HJ22.out;first|omega|exact Nat.le_refl _⟩,⟨mR c⟩,⟨q5x0⟩,⟨cK⟩,⟨q5x1⟩⟩
         case rest=>
          clear HC27;(try clear s);(try clear y);(try clear z);(try clear u);(try clear A);(try clear ae);(try clear ak al aC);(try clear aE aF aG);(try clear bm bn bo);(try clear am aD);(try clear aH aI);(try clear bp bq);obtain⟨kq,D,HA,HJ26,c,HI0,HK,HB⟩:=hcut
          cases kq with
          | zero=>exact absurd HA.out (by simp[spec_l10Read_nums.j3])
          | succ kj26=>
           have H:=HA.out;clear HA;simp only[spec_l10Read_nums.j3]at H;replace H:=bE H;obtain⟨J,aX,H⟩:=H;replace H:=bE H;obtain⟨⟨br,aJ,aK⟩,aY,H⟩:=H;(try dsimp only at H);by_cases ao:br=true
           ·subst ao;replace H:=iT H;have H':=aM H;clear H;obtain⟨aZ,a0,bs⟩:=R_slice c.out;subst bs
            go_wp2_with (first|((with_reducible refine gF 59 ?_);refine gY (some 33) Try.func59 (spec_l10Put.calls kj26 (fun k_=>some k_=(.slice aZ i.length a0:Value).ownBlock) (.slice aZ i.length a0) i t J a _ q5x1 (R_lower (R_tight rfl c.out) HL.out) aX.out) ?_;rintro bu bL ⟨E,hb,hkp⟩;replace HI0:=aM (IsS35.kept q5x0 hkp (fun hs_=>(fun e_=>(IsS35.own_ne HI0.out c.out (by decide)) e_) hs_));have G:=aM (R_mono (ok':=fun k_=>True) (R_raise (d:=(Kd.int .i64)) (b:=a.heap.size) (b':=w.heap.size) (fun _ _ _ _ h_=>h_) E (fun k_ e_=>Or.elim (E.1 k_ e_) (fun hs_=>(fun e_=>R_base c.out k_ e_.symm) hs_) (fun hn_=>Nat.le_trans (keep_size (w:=w) (g:=g) (row:=none) cK) hn_))) (fun k_ hk_=>trivial));replace HK:=aM (Kept.keepG cK hkp (fun k_ hs_=>(fun e_=> .inr (R_base c.out k_ e_.symm)) hs_));replace HB:=aM hb;clear c;(try clear hb);(try clear hkp);(try clear E))|((with_reducible refine gF 27 ?_);refine gX (some 35) Try.func27 (spec_l10Read_takes.calls g s0_0 n D 3 (⟨#[44]⟩ :ByteArray) true aJ aK a _ q5x0 q5x1 aY.out) ?_;rintro bM ⟨hi,hb,hk⟩;replace G:=aM (R_mono (R_keep (IsS35.apart (show IsS35 a _ g s0_0 n D from q5x0) (mR G) (by decide)) hk (fun _ h=>h.2)) (fun _ h=>h.1));replace HK:=tK (w:=w) hk;replace HB:=aM hb;replace HI0:=aM hi;(try clear hb);(try clear hk);(try clear hi)))
            go_roundg kj26
            case measure=>have:=HK1.out;have:=HJ12.out;have:=HJ22.out;have:=HJ26.out;omega
            case rel=>exact⟨(J),(aJ),(aK),H',⟨by have:=HK1.out;have:=HJ12.out;have:=HJ22.out;have:=HJ26.out;omega⟩,⟨mR G⟩,⟨q5x0⟩,⟨cK⟩,⟨q5x1⟩⟩
           ·replace ao:=Bool.eq_false_iff.mpr ao;subst ao;replace H:=iF H;simp only[Option.some.injEq,Prod.mk.injEq]at H;obtain⟨rfl,rfl,rfl⟩:=H;obtain⟨a1,a2,bv⟩:=R_slice c.out;subst bv
            go_wp2_with (first|((with_reducible refine gF 59 ?_);refine gY (some 33) Try.func59 (spec_l10Put.calls kj26 (fun k_=>some k_=(.slice a1 i.length a2:Value).ownBlock) (.slice a1 i.length a2) i t J a _ q5x1 (R_lower (R_tight rfl c.out) HL.out) aX.out) ?_;rintro bu bN ⟨E,hb,hkp⟩;replace HI0:=aM (IsS35.kept q5x0 hkp (fun hs_=>(fun e_=>(IsS35.own_ne HI0.out c.out (by decide)) e_) hs_));have G:=aM (R_mono (ok':=fun k_=>True) (R_raise (d:=(Kd.int .i64)) (b:=a.heap.size) (b':=w.heap.size) (fun _ _ _ _ h_=>h_) E (fun k_ e_=>Or.elim (E.1 k_ e_) (fun hs_=>(fun e_=>R_base c.out k_ e_.symm) hs_) (fun hn_=>Nat.le_trans (keep_size (w:=w) (g:=g) (row:=none) cK) hn_))) (fun k_ hk_=>trivial));replace HK:=aM (Kept.keepG cK hkp (fun k_ hs_=>(fun e_=> .inr (R_base c.out k_ e_.symm)) hs_));replace HB:=aM hb;clear c;(try clear hb);(try clear hkp);(try clear E))|((with_reducible refine gF 27 ?_);refine gX (some 35) Try.func27 (spec_l10Read_takes.calls g s0_0 n D 3 (⟨#[44]⟩ :ByteArray) false aJ aK a _ q5x0 q5x1 aY.out) ?_;rintro bO ⟨hi,hb,hk⟩;replace G:=aM (R_mono (R_keep (IsS35.apart (show IsS35 a _ g s0_0 n D from q5x0) (mR G) (by decide)) hk (fun _ h=>h.2)) (fun _ h=>h.1));replace HK:=tK (w:=w) hk;replace HB:=aM hb;replace HI0:=aM hi;(try clear hb);(try clear hk);(try clear hi)))
            go_ret;exact⟨_,rE,mR G,q5x0,q5x1,cK⟩
def spec_l10Read_wide.f (s0_0:List (S54)) (s0_1:Int) (s0_2:Bool):Option (Int×Int×Int×Bool):=(spec_l10Read_num.f s0_0 s0_1 s0_2).bind fun ap=>((spec_l10Read_takes.f s0_0 ap.2.1 ap.2.2 3 (⟨#[58]⟩ :ByteArray)).bind fun af=>(if af.1=true then((spec_l10Read_num.f s0_0 af.2.1 af.2.2).bind fun aL=>(some (ap.1,aL.1,aL.2.1,aL.2.2)))else(some (0,ap.1,af.2.1,af.2.2))))
theorem q5x2 {P:Prop} (h:P:=by repeat(first|(with_reducible first|exact HI0.out|apply IsS35.alloc|apply IsS35.drewN|apply IsS35.drew|apply IsS35.set_1|apply IsS35.set_2|(apply IsS35.far;case hne=>exact(Aside0.out (by assumption))))|exact HI0.out)):P:=h
theorem q5x3 {P:Prop} (h:P:=by repeat(first|(with_reducible first|exact HB.out|apply below_alloc|apply pw_below_drewN|apply below_drew1|refine below_set ?_ (IsS35.ge HI0.out)|refine below_set ?_ (Aside0.out (by assumption)))|exact HB.out)):P:=h
set_option maxHeartbeats 8000000 in
set_option maxRecDepth 100000 in
theorem spec_l10Read_wide.calls (g:Nat) (s0_0:List (S54)) (s0_1:Int) (s0_2:Bool) (r1:Int) (r2:Int) (r3:Int) (r4:Bool) (a w:World) (hI:IsS35 a w g s0_0 s0_1 s0_2) (hB:Below a.heap.size a w) (h:spec_l10Read_wide.f s0_0 s0_1 s0_2=some (r1,r2,r3,r4)) :
 Calls Try.prog 60 #[.pointer (some ⟨g,0,none⟩)] w fun e w'=>e= .returned (.agg #[.int .i64 r1,.int .i64 r2])∧IsS35 a w' g s0_0 r3 r4∧Below a.heap.size a w'∧KeepBut w w' g none:=by
 have hu64:=Try.underlying64;have HI0:=aM hI;have HK:=aM (KeepBut.refl w g none);have HL:=aM hB.size;clear hI;have HW0:=aM hB.size;have HB:=aM hB;clear hB
 unfold spec_l10Read_wide.f at h;have H:=h
 clear h;replace H:=bE H;obtain⟨⟨aq,ar,au⟩,X,H⟩:=H;(try dsimp only at H);replace H:=bE H;obtain⟨⟨bw,aN,aO⟩,a3,H⟩:=H;(try dsimp only at H);by_cases av:bw=true
 ·subst av;replace H:=iT H;replace H:=bE H;obtain⟨⟨a4,bx,bz⟩,bA,H⟩:=H;(try dsimp only at H);simp only[Option.some.injEq,Prod.mk.injEq]at H;obtain⟨rfl,rfl,rfl,rfl⟩:=H;go_enter Try.func60,Try.ntmps60
  go_wp2_with (first|((with_reducible refine gN 2 ?_);refine boxZ 2 #[.int .i64 0,.int .i64 0] 64 ?_;intro I hg a8 hbox hb;replace HB:=aM (below_step q5x1 hb);have j:=aM hbox;have GW209:=gK (w:=w) hg;have GE209:=gW HW0 hg;replace HK:=aM (KeepBut.trans (cK:KeepBut w _ g none) (KeepBut.of_below hb g none) (.inl rfl));have aP:=aM ((by rw[hg];exact Nat.ne_of_lt (IsS35.lt (show IsS35 a _ g s0_0 s0_1 s0_2 from q5x0)):g≠I));have v:=aM ((by rw[hg];exact Nat.ne_of_gt (IsS35.lt (show IsS35 a _ g s0_0 s0_1 s0_2 from q5x0)):I≠g));replace HI0:=aM (IsS35.below q5x0 hb);clear hb hbox hg)|((with_reducible refine gF 11 ?_);refine gX (some 5) Try.func11 (spec_l10Read_num.calls g s0_0 s0_1 s0_2 aq ar au a _ q5x2 q5x3 X.out) ?_;rintro a9 ⟨hi,hb,hk⟩;replace j:=bK hk j v.out;replace HK:=tK (w:=w) hk;replace HB:=aM hb;replace HI0:=aM hi;(try clear hb);(try clear hk);(try clear hi))|((with_reducible refine gF 27 ?_);refine gX (some 7) Try.func27 (spec_l10Read_takes.calls g s0_0 ar au 3 (⟨#[58]⟩ :ByteArray) true aN aO a _ q5x2 q5x3 a3.out) ?_;rintro bP ⟨hi,hb,hk⟩;replace j:=bK hk j v.out;replace HK:=tK (w:=w) hk;replace HB:=aM hb;replace HI0:=aM hi;(try clear hb);(try clear hk);(try clear hi))|((with_reducible refine gF 11 ?_);refine gX (some 10) Try.func11 (spec_l10Read_num.calls g s0_0 aN aO a4 bx bz a _ q5x2 q5x3 bA.out) ?_;rintro ba ⟨hi,hb,hk⟩;replace j:=bK hk j v.out;replace HK:=tK (w:=w) hk;replace HB:=aM hb;replace HI0:=aM hi;(try clear hb);(try clear hk);(try clear hi);have hnb10:=v.out;have hnc10:=aP.out;obtain⟨ak,al,bQ,am⟩:=cz2 j))
  refine bodyPost_ret (results_cell_row rfl _ _ I 64 #[.int .i64 aq,.int .i64 a4] (0,0) _ rfl (kS j _) Try.underlying64 rfl (by kernel_rfl)) rfl ?_
  exact⟨rE,q5x2,q5x3,cK⟩
 ·replace av:=Bool.eq_false_iff.mpr av;subst av;replace H:=iF H;simp only[Option.some.injEq,Prod.mk.injEq]at H;obtain⟨rfl,rfl,rfl,rfl⟩:=H;go_enter Try.func60,Try.ntmps60
  go_wp2_with (first|((with_reducible refine gN 2 ?_);refine boxZ 2 #[.int .i64 0,.int .i64 0] 64 ?_;intro I hg bR hbox hb;replace HB:=aM (below_step q5x1 hb);have j:=aM hbox;have GW209:=gK (w:=w) hg;have GE209:=gW HW0 hg;replace HK:=aM (KeepBut.trans (cK:KeepBut w _ g none) (KeepBut.of_below hb g none) (.inl rfl));have aP:=aM ((by rw[hg];exact Nat.ne_of_lt (IsS35.lt (show IsS35 a _ g s0_0 s0_1 s0_2 from q5x0)):g≠I));have v:=aM ((by rw[hg];exact Nat.ne_of_gt (IsS35.lt (show IsS35 a _ g s0_0 s0_1 s0_2 from q5x0)):I≠g));replace HI0:=aM (IsS35.below q5x0 hb);clear hb hbox hg)|((with_reducible refine gF 11 ?_);refine gX (some 5) Try.func11 (spec_l10Read_num.calls g s0_0 s0_1 s0_2 aq ar au a _ q5x2 q5x3 X.out) ?_;rintro bS ⟨hi,hb,hk⟩;replace j:=bK hk j v.out;replace HK:=tK (w:=w) hk;replace HB:=aM hb;replace HI0:=aM hi;(try clear hb);(try clear hk);(try clear hi))|((with_reducible refine gF 27 ?_);refine gX (some 7) Try.func27 (spec_l10Read_takes.calls g s0_0 ar au 3 (⟨#[58]⟩ :ByteArray) false aN aO a _ q5x2 q5x3 a3.out) ?_;rintro bT ⟨hi,hb,hk⟩;replace j:=bK hk j v.out;replace HK:=tK (w:=w) hk;replace HB:=aM hb;replace HI0:=aM hi;(try clear hb);(try clear hk);(try clear hi);have hnb15:=v.out;have hnc15:=aP.out;obtain⟨bU,bV,bW,bX⟩:=cz2 j))
  refine bodyPost_ret (results_cell_row rfl _ _ I 64 #[.int .i64 0,.int .i64 aq] (0,0) _ rfl (kS j _) Try.underlying64 rfl (by kernel_rfl)) rfl ?_
  exact⟨rE,q5x2,q5x3,cK⟩
def spec_l10Cms.f  :Option (List ByteArray):=some (([(⟨#[]⟩ :ByteArray),(⟨#[61,61]⟩ :ByteArray),(⟨#[33,61]⟩ :ByteArray),(⟨#[60]⟩ :ByteArray),(⟨#[60,61]⟩ :ByteArray),(⟨#[62]⟩ :ByteArray),(⟨#[62,61]⟩ :ByteArray)] :List ByteArray))
set_option maxHeartbeats 8000000 in
set_option maxRecDepth 100000 in
theorem spec_l10Cms.calls {r:List ByteArray}{w:World}(h:spec_l10Cms.f  = some r) :
 Calls Try.prog 61 #[] w fun e w'=> ∃ v0_:Value,e= .returned (v0_)∧Kd.R Kd.string 9 w' w.heap.size (fun _=>True) v0_ r∧Below w.heap.size w w':=by
 have HB:=rW w;have H:(some (([(⟨#[]⟩ :ByteArray),(⟨#[61,61]⟩ :ByteArray),(⟨#[33,61]⟩ :ByteArray),(⟨#[60]⟩ :ByteArray),(⟨#[60,61]⟩ :ByteArray),(⟨#[62]⟩ :ByteArray),(⟨#[62,61]⟩ :ByteArray)] :List ByteArray)))=some r:=h;clear h;obtain⟨bY,aQ⟩ : ∃ y_:List ByteArray,Aside0 (y_=(([(⟨#[]⟩ :ByteArray),(⟨#[61,61]⟩ :ByteArray),(⟨#[33,61]⟩ :ByteArray),(⟨#[60]⟩ :ByteArray),(⟨#[60,61]⟩ :ByteArray),(⟨#[62]⟩ :ByteArray),(⟨#[62,61]⟩ :ByteArray)] :List ByteArray))):=⟨_,⟨rfl⟩⟩;rw[← aQ.out]at H;obtain rfl:=Option.some.inj H;go_enter Try.func61,Try.ntmps61
 go_wp2_with (first|((with_reducible refine gN 1 ?_);refine R_lit Kd.string _ 9 ?hg (N:=1) ?hd (xs:=([(⟨#[]⟩ :ByteArray),(⟨#[61,61]⟩ :ByteArray),(⟨#[33,61]⟩ :ByteArray),(⟨#[60]⟩ :ByteArray),(⟨#[60,61]⟩ :ByteArray),(⟨#[62]⟩ :ByteArray),(⟨#[62,61]⟩ :ByteArray)] :List ByteArray)) (inner:=[.string (⟨#[]⟩ :ByteArray),.string (⟨#[61,61]⟩ :ByteArray),.string (⟨#[33,61]⟩ :ByteArray),.string (⟨#[60]⟩ :ByteArray),.string (⟨#[60,61]⟩ :ByteArray),.string (⟨#[62]⟩ :ByteArray),.string (⟨#[62,61]⟩ :ByteArray)]) (ok:=fun _=>True) (okp:=fun _=>True) ?hr ?hp (fun _ hk=>hk) trivial (Below.refl _ _) (Nat.le_refl _) (by simp) ?_;(case hd=>rfl);(case hg=>rfl);(case hr=>exact rG);(case hp=>exact(Reps.one (show Kd.M Kd.string _ _ _ (⟨#[]⟩ :ByteArray) [.string (⟨#[]⟩ :ByteArray)]from rfl) (Reps.one (show Kd.M Kd.string _ _ _ (⟨#[61,61]⟩ :ByteArray) [.string (⟨#[61,61]⟩ :ByteArray)]from rfl) (Reps.one (show Kd.M Kd.string _ _ _ (⟨#[33,61]⟩ :ByteArray) [.string (⟨#[33,61]⟩ :ByteArray)]from rfl) (Reps.one (show Kd.M Kd.string _ _ _ (⟨#[60]⟩ :ByteArray) [.string (⟨#[60]⟩ :ByteArray)]from rfl) (Reps.one (show Kd.M Kd.string _ _ _ (⟨#[60,61]⟩ :ByteArray) [.string (⟨#[60,61]⟩ :ByteArray)]from rfl) (Reps.one (show Kd.M Kd.string _ _ _ (⟨#[62]⟩ :ByteArray) [.string (⟨#[62]⟩ :ByteArray)]from rfl) (Reps.one (show Kd.M Kd.string _ _ _ (⟨#[62,61]⟩ :ByteArray) [.string (⟨#[62,61]⟩ :ByteArray)]from rfl) (Reps.none _ _)))))))));intro bZ b0 ag hb hg_ hnew_;clear hg_ hnew_;(first|rw[← aQ.out]at ag|(simp only[Int.reduceToNat]at ag;rw[← aQ.out]at ag));have bB:=rL ag;replace HB:=sB hb;clear hb ag))
 go_ret;exact⟨_,rE,mR bB,cB⟩
end Go.Proofs.Ytfhjjfibblcklaa.PFnExactReadPolicy
